import PyProof.Rows.All
import Wide.All
import OpenK.AllK
import Wide.FinOn
import HandS.ForMost
import HandS.ForExc
import HandS.Wide
import HandS.IsInst
import HandS.HeadHook1
import HandS.WideBits
import HandS.TupAny
import KE.KEqNest
import PyProof.NeKinds
import HandS.TupLe
import HandS.ExcIs
import KE.KExcPX
import HandS.Conv
import HandS.SortKw
import HandS.More
import HandS.SortInts
import HandS.Strs
import KE.KSortedM
import HandS.Iter
import HandS.Rev
import HandS.Style
import HandS.FStr
import HandS.TryOnly
import HandS.Defaults
import HandS.New0
import HandS.Zip
import PyProof.ListNew
import KE.KStateDown
import HandS.Ends
import HandS.Words
import HandS.WordsExc
import HandS.Head0
import HandS.Head1
import HandS.Head2
import HandS.HeadEnd
import HandS.HeadHook2
import PyProof.Rows.BitMore
import KE.BitLaws
import KE.OsArith
import HandS.TryMany
import HandS.Comp
import HandS.Exc
import HandS.ExcOwn
import KE.GoesRaise
import PySem.Challenge.RW_meterhouse_k32_jumps
set_option Elab.async false
set_option linter.all false
set_option maxRecDepth 100000
namespace Z
open PySem

inductive D where
  | non | bl (b : Bool) | int (i : Int) | str (s : Str) | tup (xs : List D) | ref (a : Nat) | exc (c : String) (a : Nat) | xob (k : String)

inductive O where
  | lst (xs : List D)
  | fz (xs : List D)
  | dic (kvs : List (L2.Key × D))
  | dit (kvs : List (List L2.Key × D))
  | ins (c : String) (fs : List (String × D))
  | fzd (kvs : List (L2.Key × D))
  | fzt (kvs : List (List L2.Key × D))

structure Hm where
  get : Nat → Option O
  next : Nat

def Hm.put (h : Hm) (a : Nat) (o : O) : Hm := ⟨fun b => if b = a then some o else h.get b, h.next⟩
def Hm.new (h : Hm) (o : O) : Hm := ⟨fun b => if b = h.next then some o else h.get b, h.next + 1⟩

abbrev Env := List (Option D)
abbrev Res (α : Type) := Option (Except String α × Hm)
@[simp] theorem put_get (h : Hm) (a b : Nat) (o : O) : (h.put a o).get b = if b = a then some o else h.get b := rfl
@[simp] theorem put_next (h : Hm) (a : Nat) (o : O) : (h.put a o).next = h.next := rfl
@[simp] theorem new_get (h : Hm) (b : Nat) (o : O) : (h.new o).get b = if b = h.next then some o else h.get b := rfl
@[simp] theorem new_next (h : Hm) (o : O) : (h.new o).next = h.next + 1 := rfl

def bnd {α β : Type} (m : Res α) (f : α → Hm → Res β) : Res β := match m with
  | none => none
  | some (.error k, h) => some (.error k, h)
  | some (.ok a, h) => f a h
@[simp] theorem bnd_none {α β : Type} (f : α → Hm → Res β) : bnd none f = none := rfl
@[simp] theorem bnd_error {α β : Type} (k : String) (h : Hm) (f : α → Hm → Res β) : bnd (some (.error k, h)) f = some (.error k, h) := rfl
@[simp] theorem bnd_ok {α β : Type} (a : α) (h : Hm) (f : α → Hm → Res β) : bnd (some (.ok a, h)) f = f a h := rfl

inductive Bop where | add | sub | mul | fdiv | mod | pow | shl | shr | band | bor | bxor
inductive Cop where | eq | ne | lt | le | gt | ge | isN | notN | inn | nin | eqT | neT
inductive Bi where | len | int | str | list | tuple | dict | min2 | max2 | sum | sorted | divmod | abs | any | minD | lset
inductive Bm where | append | pop | get | get2 | dpop | join | split | partition | index | insert | clear | find | isdigit
inductive Tn where | int | bool | str | tuple | list | dict
inductive Cst where | non | bl (b : Bool) | int (i : Int) | str (s : String)
inductive Tg where | name (i : Nat) | tup (is : List Nat)
inductive ItK where | seq | range1 | range2 | range3 | rev | enum | zip | keys | vals | items

def Cst.d : Cst → D
  | .non => .non
  | .bl b => .bl b
  | .int i => .int i
  | .str s => .str (Str.ofString s)

mutual
inductive E where
  | var (i : Nat)
  | con (c : Cst)
  | glo (x : String)
  | bin (o : Bop) (a b : E)
  | neg (a : E)
  | cmp (o : Cop) (a b : E)
  | chn (o o' : Cop) (a b c : E)
  | and (a b : E)
  | or (a b : E)
  | not (a : E)
  | ife (c : T) (a b : E)
  | idx (a b : E)
  | dgt (a b : E)
  | slc (a : E) (lo hi : Eo)
  | att (a : E) (f : String)
  | tup (es : Es)
  | lst (es : Es)
  | dict (es : Es)
  | call (f : String) (es : Es) (ds : List Cst)
  | meth (o : E) (m : String) (es : Es) (ds : List Cst)
  | new (c : String) (es : Es)
  | bi (b : Bi) (es : Es)
  | bm (b : Bm) (o : E) (es : Es)
  | isi (a : E) (t : Tn)
  | isi2 (a : E) (t u : Tn)
  | gix (x : String) (e : E)
  | comp (elt : E) (own : List Nat) (g : Tg) (k : ItK) (es : Es) (tst : T)
  | cpx (elt : E) (own : List Nat) (g : Tg) (k : ItK) (es : Es) (tst : T)
  | fst (es : Es)
  | rsl (a : E)
  | dictT
  | dgtT (a : E) (es : Es)
  | getT (a : E) (es : Es) (d : Cst)
  | lck (i : Nat) (e : E)
  | new0 (c : String)
  | isc (a : E) (c : String)
  | isx (i : Nat) (c : String)
  | isxB (i : Nat) (c : String)
  | iso (a : E) (c : String)
  | lrg (a : E)
  | fmt (a : E)
  | isoB (a : E) (c : String)
inductive Es where
  | nil
  | cons (e : E) (es : Es)
inductive Eo where
  | none
  | some (e : E)
inductive T where
  | yes
  | cmp (o : Cop) (a b : E)
  | chn (o o' : Cop) (a b c : E)
  | and (a b : T)
  | or (a b : T)
  | not (a : T)
  | tru (a : E)
end

def Es.len : Es → Nat
  | .nil => 0
  | .cons _ es => es.len + 1
inductive S where
  | skip
  | seq (a b : S)
  | asg (i : Nat) (e : E)
  | unp (is : List Nat) (e : E)
  | sfld (o : E) (f : String) (e : E)
  | sidx (o i e : E)
  | dput (o i e : E)
  | aug (i : Nat) (o : Bop) (e : E)
  | augf (o : E) (f : String) (op : Bop) (e : E)
  | augi (o i : E) (op : Bop) (e : E)
  | ite (c : T) (a b : S)
  | for_ (g : Tg) (k : ItK) (es : Es) (body : S)
  | wh (c : T) (body : S)
  | ret (e : E)
  | drop (e : E)
  | rai (c : String)
  | try_ (body : S) (c : String) (x : Option Nat) (suite : S)
  | dputT (o : E) (es : Es) (e : E)
  | lck (i : Nat) (s : S)
  | par (i j : Nat) (es : Es)
  | tryK (body : S) (c : String) (i j : Nat)
end Z

set_option maxRecDepth 100000
namespace Z
open PySem

def lim : Nat := 1000000
def big (i : Int) : Prop := -(2 ^ 250) < i ∧ i < 2 ^ 250
def w64 (i : Int) : Prop := -(2 ^ 64) < i ∧ i < 2 ^ 64
instance (i : Int) : Decidable (big i) := inferInstanceAs (Decidable (_ ∧ _))
instance (i : Int) : Decidable (w64 i) := inferInstanceAs (Decidable (_ ∧ _))
def mulOk (i j : Int) : Prop := w64 i ∨ w64 j ∨ (big i ∧ big j)
instance (i j : Int) : Decidable (mulOk i j) := inferInstanceAs (Decidable (_ ∨ _))
def rng62 (i : Int) : Prop := -(2 ^ 62) ≤ i ∧ i < 2 ^ 62
instance (i : Int) : Decidable (rng62 i) := inferInstanceAs (Decidable (_ ∧ _))

def atD {α : Type} (xs : List α) (i : Int) : Option α := if 0 ≤ i then xs[i.toNat]? else if -(xs.length : Int) ≤ i then xs[(i + xs.length).toNat]? else none
def ixD (n : Nat) (i : Int) : Option Nat := if 0 ≤ i then (if i < n then some i.toNat else none) else if -(n : Int) ≤ i then some (i + n).toNat else none
def sI (n d : Nat) : Option Int → Nat
  | none => d
  | some v => if v < 0 then (v + (n : Int)).toNat else min v.toNat n
def cut {α : Type} (xs : List α) (lo hi : Option Int) : List α := (xs.drop (sI xs.length 0 lo)).take (sI xs.length xs.length hi - sI xs.length 0 lo)
def cutT (z : Str) (lo hi : Option Int) : Str := ⟨((z.cps.toList.drop (sI z.length 0 lo)).take (sI z.length z.length hi - sI z.length 0 lo)).toArray⟩

section
variable {κ α : Type} [DecidableEq κ]
def kget (kvs : List (κ × α)) (k : κ) : Option α := (kvs.find? fun kv => decide (kv.1 = k)).map (·.2)
def kput (kvs : List (κ × α)) (k : κ) (v : α) : List (κ × α) :=
  if (kvs.any fun kv => decide (kv.1 = k)) = true then kvs.map (fun kv => if kv.1 = k then (kv.1, v) else kv) else kvs ++ [(k, v)]
def kdrop (kvs : List (κ × α)) (k : κ) : List (κ × α) := kvs.filter fun kv => decide (kv.1 ≠ k)
def kmerge (kvs more : List (κ × α)) : List (κ × α) := more.foldl (fun acc kv => kput acc kv.1 kv.2) kvs
end
def key? : D → Option L2.Key
  | .int i => some (.inl i)
  | .str s => some (.inr s)
  | _ => none
def keys? : List D → Option (List L2.Key)
  | [] => some []
  | d :: ds => match key? d, keys? ds with
    | some k, some ks => some (k :: ks)
    | _, _ => none
def keyD : L2.Key → D
  | .inl i => .int i
  | .inr s => .str s
def dget (h : Hm) (a : Nat) (k : D) : Option (Option D) := match h.get a with
  | some (.dic kvs) => (key? k).map fun q => kget kvs q
  | some (.fzd kvs) => (key? k).map fun q => kget kvs q
  | _ => none
def dgetT (h : Hm) (a : Nat) (ks : List D) : Option (Option D) := match h.get a with
  | some (.dit kvs) => (keys? ks).map fun q => kget kvs q
  | some (.fzt kvs) => (keys? ks).map fun q => kget kvs q
  | _ => none
def dputT (h : Hm) (a : Nat) (ks : List D) (v : D) : Option Hm := match h.get a with
  | some (.dit kvs) => if kvs.length < lim then (keys? ks).map fun q => h.put a (.dit (kput kvs q v)) else none
  | _ => none
def lckO : O → Option O
  | .dic kvs => some (.fzd kvs)
  | .dit kvs => some (.fzt kvs)
  | _ => none
def frzO : Option O → Bool
  | some (.fzd _) => true
  | some (.fzt _) => true
  | _ => false
def dput (h : Hm) (a : Nat) (k v : D) : Option Hm := match h.get a with
  | some (.dic kvs) => if kvs.length < lim then (key? k).map fun q => h.put a (.dic (kput kvs q v)) else none
  | _ => none

def pairUp : List D → Option (List (L2.Key × D))
  | [] => some []
  | k :: v :: r => match key? k, pairUp r with
    | some q, some ps => some ((q, v) :: ps)
    | _, _ => none
  | _ => none
def dispO (o : Option O) (p : Option (List (L2.Key × D))) (h1 : Hm) (a : Nat) : Option (Except String D × Hm) := match o, p with
  | some (.dic []), some kvs => if kvs.length ≤ 15 then some (.ok (.ref a), h1.put a (.dic (kmerge [] kvs))) else none
  | _, _ => none

def mapO {α β : Type} (f : α → Option β) : List α → Option (List β)
  | [] => some []
  | x :: xs => match f x, mapO f xs with
    | some y, some ys => some (y :: ys)
    | _, _ => none
def dat (h : Hm) : Nat → D → Option PyData
  | _, .non => some .none
  | _, .bl b => some (.bool b)
  | _, .int i => some (.int i)
  | _, .str s => some (.str s)
  | n + 1, .tup xs => (mapO (dat h n) xs).map .tuple
  | n + 1, .ref a => (match h.get a with
    | some (.lst xs) => (mapO (dat h n) xs).map .list
    | some (.fz xs) => (mapO (dat h n) xs).map .list
    | _ => none)
  | _, _ => none
def deep : Nat := 30
def eqD (x y : D) (h : Hm) : Option Bool := match x, y with
  | .int i, .int j => some (decide (i = j))
  | .str s, .str t => some (decide (s = t))
  | .bl a, .bl b => some (decide (a = b))
  | .non, .non => some true
  | .int _, .str _ => some false
  | .str _, .int _ => some false
  | x, y => match dat h deep x, dat h deep y with
    | some d, some e => if (SeqAt.shaped d && SeqAt.shaped e) = true then some (PyData.eqv d e) else none
    | _, _ => none
def flatD : D → Bool
  | .non => true
  | .bl _ => true
  | .int _ => true
  | .str _ => true
  | _ => false
def eqF : D → D → Bool
  | .non, .non => true
  | .bl a, .bl b => a == b
  | .bl a, .int b => (if a then 1 else 0) == b
  | .int a, .bl b => a == (if b then 1 else 0)
  | .int a, .int b => a == b
  | .str a, .str b => a == b
  | _, _ => false
def inL (x : D) (xs : List D) : Option Bool := if flatD x = true ∧ xs.all flatD = true then some (xs.any fun y => eqF y x) else none
def inS (s z : Str) : Bool := if s.cps.size = 1 then decide (s.cps.getD 0 0 ∈ z.cps.toList) else !(Builtin.Str.occurrences z s 0 z.length 1).isEmpty
def inD (x y : D) (h : Hm) : Option Bool := match y with
  | .str z => (match x with
    | .str s => some (inS s z)
    | _ => none)
  | .tup xs => inL x xs
  | .ref a => (match h.get a with
    | some (.lst xs) => inL x xs
    | some (.fz xs) => inL x xs
    | some (.dic _) => (dget h a x).map Option.isSome
    | some (.fzd _) => (dget h a x).map Option.isSome
    | _ => none)
  | _ => none
inductive TwH (h : Hm) : Nat → D → D → Prop
  | int (n : Nat) (i : Int) : TwH h n (.int i) (.int i)
  | non (n : Nat) : TwH h n .non .non
  | lst {n : Nat} {a b : Nat} {xs ys : List D} (ha : h.get a = some (.lst xs)) (hb : h.get b = some (.lst ys)) (hl : xs.length = ys.length) (hx : ∀ (j : Nat) (x y : D), xs[j]? = some x → ys[j]? = some y → TwH h n x y) : TwH h (n + 1) (.ref a) (.ref b)
  | dic {n : Nat} {a b : Nat} {ks ls : List (L2.Key × D)} (f : L2.Key → D) (ha : h.get a = some (.dic ks)) (hb : h.get b = some (.dic ls)) (hl : ks.length = ls.length) (hk : ∀ p ∈ ks, kget ls p.1 = some (f p.1)) (ht : ∀ p ∈ ks, TwH h n p.2 (f p.1)) : TwH h (n + 1) (.ref a) (.ref b)
def TwT (x y : D) (h : Hm) : Prop := ∃ a b xs ys, x = .ref a ∧ y = .ref b ∧ h.get a = some (.lst xs) ∧ h.get b = some (.lst ys) ∧ TwH h 20 x y
open Classical in
noncomputable def cmpD (o : Cop) (x y : D) (h : Hm) : Option Bool := match o with
  | .eqT => if TwT x y h then some true else none
  | .neT => if TwT x y h then some false else none
  | .eq => eqD x y h
  | .ne => (eqD x y h).map fun b => !b
  | .lt => (match x, y with
    | .int i, .int j => some (decide (i < j))
    | _, _ => none)
  | .le => (match x, y with
    | .int i, .int j => some (decide (i ≤ j))
    | _, _ => none)
  | .gt => (match x, y with
    | .int i, .int j => some (decide (j < i))
    | _, _ => none)
  | .ge => (match x, y with
    | .int i, .int j => some (decide (j ≤ i))
    | _, _ => none)
  | .isN => (match x, y with
    | .bl a, .bl b => some (decide (a = b))
    | .non, .non => some true
    | _, .non => some false
    | _, _ => none)
  | .notN => (match x, y with
    | .bl a, .bl b => some (!decide (a = b))
    | .non, .non => some false
    | _, .non => some true
    | _, _ => none)
  | .inn => inD x y h
  | .nin => (inD x y h).map fun b => !b

def ok {α : Type} (x : α) (h : Hm) : Res α := some (.ok x, h)
def repS (s : Str) (k : Int) : Str := ⟨List.foldl (fun a b => a ++ b) #[] (List.replicate k.toNat s.cps)⟩
def binD (o : Bop) (x y : D) (h : Hm) : Res D := match o with
  | .add => (match x, y with
    | .int i, .int j => ok (.int (i + j)) h
    | .str s, .str t => if s.length + t.length ≤ lim then ok (.str (s ++ t)) h else none
    | .tup (x :: xs), .tup ys => if xs.length + ys.length < lim then ok (.tup (x :: xs ++ ys)) h else none
    | .ref a, .ref b => (match h.get a, h.get b with
      | some (.lst xs), some (.lst ys) => if xs.length + ys.length ≤ lim then ok (.ref h.next) (h.new (.lst (xs ++ ys))) else none
      | _, _ => none)
    | _, _ => none)
  | .sub => (match x, y with
    | .int i, .int j => ok (.int (i - j)) h
    | _, _ => none)
  | .mul => (match x, y with
    | .int i, .int j => if mulOk i j then ok (.int (i * j)) h else none
    | .str s, .int k => if s.length = 1 ∧ 2 ≤ k ∧ k ≤ 10000 then ok (.str (repS s k)) h else none
    | .ref a, .int k => (match h.get a with
      | some (.lst xs) => if rng62 k ∧ xs.length * k.toNat ≤ lim then ok (.ref h.next) (h.new (.lst (List.replicate k.toNat xs).flatten)) else none
      | _ => none)
    | _, _ => none)
  | .fdiv => (match x, y with
    | .int i, .int j => if 0 < j ∧ j < 2 ^ 250 then ok (.int (i / j)) h else none
    | _, _ => none)
  | .mod => (match x, y with
    | .int i, .int j => if 0 < j then ok (.int (i % j)) h else none
    | _, _ => none)
  | .pow => (match x, y with
    | .int i, .int j => if 0 ≤ j ∧ j ≤ 1000000 ∧ w64 i then ok (.int (i ^ j.toNat)) h else none
    | _, _ => none)
  | .shl => (match x, y with
    | .int i, .int j => if 0 ≤ j ∧ j ≤ 1000000 ∧ w64 i then ok (.int (i * 2 ^ j.toNat)) h else none
    | _, _ => none)
  | .shr => (match x, y with
    | .int i, .int j => if 0 ≤ j then ok (.int (i / 2 ^ j.toNat)) h else none
    | _, _ => none)
  | .band => (match x, y with
    | .int i, .int j => ok (.int (Builtin.bitAnd i j)) h
    | _, _ => none)
  | .bor => (match x, y with
    | .int i, .int j => ok (.int (Builtin.bitOr i j)) h
    | _, _ => none)
  | .bxor => (match x, y with
    | .int i, .int j => ok (.int (Builtin.bitXor i j)) h
    | _, _ => none)
def negD (x : D) (h : Hm) : Res D := match x with
  | .int i => ok (.int (-i)) h
  | _ => none
def idxD (x y : D) (h : Hm) : Option D := match y with
  | .int i => (match x with
    | .tup xs => atD xs i
    | .ref a => (match h.get a with
      | some (.lst xs) => atD xs i
      | some (.fz xs) => atD xs i
      | _ => none)
    | .str z => if z.length ≤ lim then (atD z.cps.toList i).map fun c => .str ⟨#[c]⟩ else none
    | _ => none)
  | _ => none
def slcD (x : D) (lo hi : Option Int) (h : Hm) : Res D := match x with
  | .tup xs => ok (.tup (cut xs lo hi)) h
  | .ref a => (match h.get a with
    | some (.lst xs) => ok (.ref h.next) (h.new (.lst (cut xs lo hi)))
    | some (.fz xs) => ok (.ref h.next) (h.new (.lst (cut xs lo hi)))
    | _ => none)
  | .str z => if z.length ≤ lim then ok (.str (cutT z lo hi)) h else none
  | _ => none
def truD (x : D) (h : Hm) : Option Bool := match x with
  | .non => some false
  | .bl b => some b
  | .int i => some (i != 0)
  | .str s => if s.length ≤ lim then some ((s.length : Int) != 0) else none
  | .tup xs => some (!xs.isEmpty)
  | .ref a => (match h.get a with
    | some (.lst xs) => some (!xs.isEmpty)
    | some (.fz xs) => some (!xs.isEmpty)
    | some (.dic kvs) => some (!kvs.isEmpty)
    | _ => none)
  | _ => none

def ints? : List D → Option (List Int)
  | [] => some []
  | .int i :: ds => (ints? ds).map fun r => i :: r
  | _ => none
def bls? : List D → Option (List Bool)
  | [] => some []
  | .bl i :: ds => (bls? ds).map fun r => i :: r
  | _ => none
def strs? : List D → Option (List Str)
  | [] => some []
  | .str i :: ds => (strs? ds).map fun r => i :: r
  | _ => none
def insI (x : Int) : List Int → List Int
  | [] => [x]
  | y :: ys => if x ≤ y then x :: y :: ys else y :: insI x ys
def srt : List Int → List Int
  | [] => []
  | x :: xs => insI x (srt xs)
def seqOf (x : D) (h : Hm) : Option (List D) := match x with
  | .tup xs => some xs
  | .ref a => (match h.get a with
    | some (.lst xs) => some xs
    | some (.fz xs) => some xs
    | _ => none)
  | _ => none
def lstOf (x : D) (h : Hm) : Option (List D) := match x with
  | .ref a => (match h.get a with
    | some (.lst xs) => some xs
    | some (.fz xs) => some xs
    | _ => none)
  | _ => none
def lmin (d : Int) : List Int → Int
  | [] => d
  | x :: r => r.foldl (fun m y => if y < m then y else m) x
def biD (b : Bi) (vs : List D) (h : Hm) : Res D := match b with
  | .len => (match vs with
    | [.str s] => if s.length ≤ lim then ok (.int s.length) h else none
    | [.tup xs] => ok (.int xs.length) h
    | [.ref a] => (match h.get a with
      | some (.lst xs) => ok (.int xs.length) h
      | some (.fz xs) => ok (.int xs.length) h
      | some (.dic kvs) => ok (.int kvs.length) h
      | _ => none)
    | _ => none)
  | .int => (match vs with
    | [.int i] => ok (.int i) h
    | [.bl b] => ok (.int (if b then 1 else 0)) h
    | [.str s] => if s.length ≤ 640 then (match intText? s with
      | some n => ok (.int n) h
      | none => none) else none
    | _ => none)
  | .str => (match vs with
    | [.int i] => if -(2 ^ 250) < i ∧ i < 2 ^ 250 then ok (.str (Str.ofString (toString i))) h else none
    | _ => none)
  | .list => (match vs with
    | [x] => (match seqOf x h with
      | some xs => ok (.ref h.next) (h.new (.lst xs))
      | none => (match x with
        | .ref a => (match h.get a with
          | some (.dic kvs) => ok (.ref h.next) (h.new (.lst (kvs.map fun kv => keyD kv.1)))
          | _ => none)
        | _ => none))
    | _ => none)
  | .tuple => (match vs with
    | [x] => (match seqOf x h with
      | some xs => ok (.tup xs) h
      | none => none)
    | _ => none)
  | .dict => (match vs with
    | [.ref a] => (match h.get a with
      | some (.dic kvs) => ok (.ref h.next) (h.new (.dic kvs))
      | _ => none)
    | _ => none)
  | .min2 => (match vs with
    | [.int i, .int j] => ok (.int (if j < i then j else i)) h
    | _ => none)
  | .minD => (match vs with
    | [x, .int d] => (match lstOf x h with
      | some xs => (match ints? xs with
        | some ns => ok (.int (lmin d ns)) h
        | none => none)
      | none => none)
    | _ => none)
  | .lset => (match vs with
    | [x] => (match lstOf x h with
      | some xs => (match ints? xs with
        | some ns => if ns.Nodup ∧ ns.length ≤ 4000 then ok (.int ((ns.length : Nat) : Int)) h else none
        | none => none)
      | none => none)
    | _ => none)
  | .max2 => (match vs with
    | [.int i, .int j] => ok (.int (if j > i then j else i)) h
    | _ => none)
  | .sum => (match vs with
    | [x] => (match lstOf x h with
      | some xs => (match ints? xs with
        | some ns => ok (.int ns.sum) h
        | none => none)
      | none => none)
    | _ => none)
  | .sorted => (match vs with
    | [x] => (match lstOf x h with
      | some xs => (match ints? xs with
        | some ns => ok (.ref h.next) (h.new (.lst ((srt ns).map .int)))
        | none => none)
      | none => (match x with
        | .ref a => (match h.get a with
          | some (.dic kvs) => (match ints? (kvs.map fun kv => keyD kv.1) with
            | some ns => if ns.length < 900000 then ok (.ref h.next) (h.new (.lst ((srt ns).map .int))) else none
            | none => none)
          | _ => none)
        | _ => none))
    | _ => none)
  | .divmod => (match vs with
    | [.int i, .int j] => if 0 < j ∧ -(2 ^ 250) < i ∧ i < 2 ^ 250 then ok (.tup [.int (i / j), .int (i % j)]) h else none
    | _ => none)
  | .abs => (match vs with
    | [.int i] => ok (.int (if i < 0 then -i else i)) h
    | _ => none)
  | .any => (match vs with
    | [x] => (match lstOf x h with
      | some xs => (match bls? xs with
        | some bs => ok (.bl (bs.any id)) h
        | none => none)
      | none => none)
    | _ => none)
def whereL (x : D) : List D → Option Nat
  | [] => none
  | y :: ys => if eqF y x = true then some 0 else (whereL x ys).map (· + 1)
def gixD (x y : D) (h : Hm) : Res D := match x, y with
  | .tup xs, .str z => (match strs? xs with
    | some ys => (match ys.findIdx? fun s => decide (s = z) with
      | some j => ok (.int j) h
      | none => none)
    | none => none)
  | _, _ => none
def rcv (b : Bm) (x : D) (h : Hm) : Bool := match b with
  | .append => (lstOf x h).isSome
  | .pop => (lstOf x h).isSome
  | .insert => (lstOf x h).isSome
  | .clear => (lstOf x h).isSome
  | .index => (lstOf x h).isSome
  | .get => isDic x h
  | .get2 => isDic x h
  | .dpop => isDic x h
  | _ => (match x with
    | .str _ => true
    | _ => false)
where isDic (x : D) (h : Hm) : Bool := match x with
  | .ref a => (match h.get a with
    | some (.dic _) => true
    | some (.fzd _) => true
    | _ => false)
  | _ => false
def bmD (b : Bm) (x : D) (vs : List D) (h : Hm) : Res D := match b with
  | .append => (match x, vs with
    | .ref a, [v] => (match h.get a with
      | some (.lst xs) => if xs.length < lim then ok .non (h.put a (.lst (xs ++ [v]))) else none
      | _ => none)
    | _, _ => none)
  | .pop => (match x, vs with
    | .ref a, [] => (match h.get a with
      | some (.lst xs) => (match xs.getLast? with
        | some y => ok y (h.put a (.lst xs.dropLast))
        | none => none)
      | _ => none)
    | _, _ => none)
  | .get => (match x, vs with
    | .ref a, [k] => (match dget h a k with
      | some (some v) => ok v h
      | some none => ok .non h
      | none => none)
    | _, _ => none)
  | .get2 => (match x, vs with
    | .ref a, [k, y] => (match dget h a k with
      | some (some v) => ok v h
      | some none => ok y h
      | none => none)
    | _, _ => none)
  | .dpop => (match x, vs with
    | .ref a, [k] => (match h.get a with
      | some (.dic kvs) => (match key? k with
        | some q => (match kget kvs q with
          | some v => ok v (h.put a (.dic (kdrop kvs q)))
          | none => none)
        | none => none)
      | _ => none)
    | _, _ => none)
  | .join => (match x, vs with
    | .str z, [y] => (match seqOf y h with
      | some xs => (match strs? xs with
        | some ys => if (ys.map (·.length)).sum + ys.length * z.length ≤ 16777216 then ok (.str (PySem.Txt.join z ys)) h else none
        | none => none)
      | none => none)
    | _, _ => none)
  | .split => (match x, vs with
    | .str z, [.str y] => if (y.length == 0) = false ∧ z.length ≤ lim then ok (.ref h.next) (h.new (.lst ((PySem.Txt.split z y).map .str))) else none
    | _, _ => none)
  | .partition => (match x, vs with
    | .str z, [.str y] => if (y.length == 0) = false ∧ z.length ≤ lim then
        ok (.tup [.str (PySem.Txt.partition z y).1, .str (PySem.Txt.partition z y).2.1, .str (PySem.Txt.partition z y).2.2]) h else none
    | _, _ => none)
  | .index => (match vs with
    | [y] => (match lstOf x h with
      | some xs => if flatD y = true ∧ xs.all flatD = true then (match whereL y xs with
        | some j => ok (.int j) h
        | none => none) else none
      | none => none)
    | _ => none)
  | .insert => (match x, vs with
    | .ref a, [.int i, v] => (match h.get a with
      | some (.lst xs) => if xs.length < lim ∧ 0 ≤ i ∧ i < 2 ^ 62 then ok .non (h.put a (.lst (xs.take i.toNat ++ [v] ++ xs.drop i.toNat))) else none
      | _ => none)
    | _, _ => none)
  | .clear => (match x, vs with
    | .ref a, [] => (match h.get a with
      | some (.lst xs) => ok .non (h.put a (.lst []))
      | _ => none)
    | _, _ => none)
  | .find => (match x, vs with
    | .str z, [.str y] => ok (.int (PySem.Txt.find z y)) h
    | _, _ => none)
  | .isdigit => (match x, vs with
    | .str z, [] => ok (.bl (PySem.Txt.isdigit z)) h
    | _, _ => none)
end Z

set_option maxRecDepth 100000
namespace Z
open PySem

structure Fn where
  np : Nat
  ns : Nat
  body : S
structure Prog where
  fn : String → Option Fn
  glob : String → Option D
  mt : String → String → Option String
  fld : String → String → Bool
  exm : String → String → Option Bool
  lf : Nat
  sub : String → String → Option Bool := fun _ _ => none
  exs : String → String → Option Bool := fun _ _ => none
  exb : String → String → Option Bool := fun _ _ => none
  xk : Option (String × Nat) := none

inductive Fl where | nx | rt (d : D) | ex (k : String)
abbrev Out := Option (Fl × Env × Hm)

def stays (gd : List (Nat × O)) (h : Hm) : Prop := ∀ p ∈ gd, h.get p.1 = some p.2
def setN (env : Env) : List Nat → List D → Option Env
  | [], [] => some env
  | i :: is, d :: ds => setN (env.set i (some d)) is ds
  | _, _ => none
def asgT (g : Tg) (x : D) (env : Env) : Option Env := match g with
  | .name i => some (env.set i (some x))
  | .tup is => (match x with
    | .tup xs => setN env is xs
    | _ => none)
def wipeE (env : Env) : List Nat → Env
  | [] => env
  | v :: vs => (wipeE env vs).set v none
def walk (k : ItK) (vs : List D) (h : Hm) : Option (List D × List (Nat × O)) := match k with
  | .seq => (match vs with
    | [.tup xs] => some (xs, [])
    | [.str z] => some (z.cps.toList.map fun c => .str ⟨#[c]⟩, [])
    | [.ref a] => (match h.get a with
      | some (.lst xs) => some (xs, [(a, .lst xs)])
      | some (.fz xs) => some (xs, [(a, .fz xs)])
      | _ => none)
    | _ => none)
  | .range1 => (match vs with
    | [.int n] => if rng62 n then some ((List.range n.toNat).map fun (i : Nat) => .int (i : Int), []) else none
    | _ => none)
  | .range2 => (match vs with
    | [.int m, .int n] => if rng62 m ∧ rng62 n then some ((List.range (n - m).toNat).map fun (i : Nat) => .int (m + (i : Int)), []) else none
    | _ => none)
  | .range3 => (match vs with
    | [.int m, .int n, .int c] => if (c = 2 ∨ c = 7) ∧ rng62 m ∧ rng62 n then some ((List.range (if m < n then (n - m - 1) / c + 1 else 0).toNat).map fun (i : Nat) => .int (m + (i : Int) * c), []) else none
    | _ => none)
  | .rev => (match vs with
    | [.tup xs] => some (xs.reverse, [])
    | [.ref a] => (match h.get a with
      | some (.lst xs) => some (xs.reverse, [(a, .lst xs)])
      | some (.fz xs) => some (xs.reverse, [(a, .fz xs)])
      | _ => none)
    | _ => none)
  | .keys => (match vs with
    | [.ref a] => (match h.get a with
      | some (.fzd kvs) => some (kvs.map fun kv => keyD kv.1, [])
      | some (.fzt kvs) => some (kvs.map fun kv => .tup (kv.1.map keyD), [])
      | _ => none)
    | _ => none)
  | .vals => (match vs with
    | [.ref a] => (match h.get a with
      | some (.fzd kvs) => some (kvs.map fun kv => kv.2, [])
      | _ => none)
    | _ => none)
  | .items => (match vs with
    | [.ref a] => (match h.get a with
      | some (.fzd kvs) => some (kvs.map fun kv => .tup [keyD kv.1, kv.2], [])
      | _ => none)
    | _ => none)
  | .zip => (match vs with
    | [.ref a, .ref b] => (match h.get a, h.get b with
      | some (.lst xs), some (.lst ys) => some ((xs.zip ys).map fun p => .tup [p.1, p.2], [(a, .lst xs), (b, .lst ys)])
      | _, _ => none)
    | _ => none)
  | .enum => (match vs with
    | [.ref a] => (match h.get a with
      | some (.lst xs) => some (xs.zipIdx.map fun p => .tup [.int (p.2 : Nat), p.1], [(a, .lst xs)])
      | _ => none)
    | _ => none)

def bndN {α β : Type} (m : Res α) (f : α → Hm → Res β) : Res β := match m with
  | some (.ok a, h) => f a h
  | _ => none
@[simp] theorem bndN_none {α β : Type} (f : α → Hm → Res β) : bndN none f = none := rfl
@[simp] theorem bndN_error {α β : Type} (k : String) (h : Hm) (f : α → Hm → Res β) : bndN (some (.error k, h)) f = none := rfl
@[simp] theorem bndN_ok {α β : Type} (a : α) (h : Hm) (f : α → Hm → Res β) : bndN (some (.ok a, h)) f = f a h := rfl

open Classical in
noncomputable def compL (fe : Env → Hm → Res D) (ft : Env → Hm → Res Bool) (g : Tg) (gd : List (Nat × O)) (a : Nat) (env : Env) : List D → Hm → Res D
  | [], h => if stays gd h then ok (.ref a) h else none
  | x :: xs, h => if stays gd h then (match asgT g x env with
    | none => none
    | some env1 => bndN (ft env1 h) fun b h2 => if b = true then bndN (fe env1 h2) fun y h3 => (match h3.get a with
      | some (.lst acc) => if acc.length < lim then compL fe ft g gd a env xs (h3.put a (.lst (acc ++ [y]))) else none
      | _ => none) else compL fe ft g gd a env xs h2) else none

open Classical in
noncomputable def compX (fe : Env → Hm → Res D) (ft : Env → Hm → Res Bool) (g : Tg) (gd : List (Nat × O)) (a : Nat) (env : Env) : List D → Hm → Res D
  | [], h => if stays gd h then ok (.ref a) h else none
  | x :: xs, h => if stays gd h then (match asgT g x env with
    | none => none
    | some env1 => bndN (ft env1 h) fun b h2 => if b = true then bnd (fe env1 h2) fun y h3 => (match h3.get a with
      | some (.lst acc) => if acc.length < lim then compX fe ft g gd a env xs (h3.put a (.lst (acc ++ [y]))) else none
      | _ => none) else compX fe ft g gd a env xs h2) else none

def liftO {α : Type} (o : Option α) (h : Hm) : Res α := match o with
  | some x => ok x h
  | none => none
abbrev Cl := String → List D → Hm → Res D

def tyN (x : D) (h : Hm) : Option String := match x with
  | .non => some "NoneType"
  | .bl _ => some "bool"
  | .int _ => some "int"
  | .str _ => some "str"
  | .tup _ => some "tuple"
  | .ref a => (match h.get a with
    | some (.lst _) => some "list"
    | some (.fz _) => some "list"
    | some (.dic _) => some "dict"
    | _ => none)
  | .exc _ _ => none
  | .xob _ => none
def Tn.nm : Tn → String
  | .int => "int"
  | .bool => "bool"
  | .str => "str"
  | .tuple => "tuple"
  | .list => "list"
  | .dict => "dict"
def isTn (a : String) (t : Tn) : Bool := a == t.nm || (a == "bool" && t.nm == "int")
def Tg.in_ (g : Tg) (own : List Nat) : Bool := match g with
  | .name i => own.contains i
  | .tup is => is.all own.contains
mutual
noncomputable def ev (P : Prog) (cl : Cl) : E → Env → Hm → Res D
  | .var i, env, h => (match env[i]? with
    | some (some d) => ok d h
    | _ => none)
  | .con c, _, h => ok c.d h
  | .glo x, _, h => liftO (P.glob x) h
  | .bin o a b, env, h => bnd (ev P cl a env h) fun x h1 => bnd (ev P cl b env h1) fun y h2 => binD o x y h2
  | .neg a, env, h => bnd (ev P cl a env h) negD
  | .cmp o a b, env, h => bnd (ev P cl a env h) fun x h1 => bnd (ev P cl b env h1) fun y h2 => liftO ((cmpD o x y h2).map .bl) h2
  | .chn o o' a b c, env, h => bnd (ev P cl a env h) fun x h1 => bnd (ev P cl b env h1) fun y h2 => (match cmpD o x y h2 with
    | some true => bnd (ev P cl c env h2) fun z h3 => liftO ((cmpD o' y z h3).map .bl) h3
    | some false => ok (.bl false) h2
    | none => none)
  | .and a b, env, h => bnd (ev P cl a env h) fun x h1 => (match x with
    | .bl true => ev P cl b env h1
    | .bl false => ok (.bl false) h1
    | _ => none)
  | .or a b, env, h => bnd (ev P cl a env h) fun x h1 => (match x with
    | .bl true => ok (.bl true) h1
    | .bl false => ev P cl b env h1
    | _ => none)
  | .not a, env, h => bnd (ev P cl a env h) fun x h1 => (match x with
    | .bl b => ok (.bl (!b)) h1
    | _ => none)
  | .ife c a b, env, h => bnd (evT P cl c env h) fun k h1 => if k = true then ev P cl a env h1 else ev P cl b env h1
  | .idx a b, env, h => bnd (ev P cl a env h) fun x h1 => bnd (ev P cl b env h1) fun y h2 => liftO (idxD x y h2) h2
  | .dgt a b, env, h => bnd (ev P cl a env h) fun x h1 => bnd (ev P cl b env h1) fun y h2 => (match x with
    | .ref p => (match dget h2 p y with
      | some (some v) => ok v h2
      | _ => none)
    | _ => none)
  | .slc a lo hi, env, h => bnd (ev P cl a env h) fun x h1 => bnd (evO P cl lo env h1) fun l h2 => bnd (evO P cl hi env h2) fun u h3 => slcD x l u h3
  | .att a f, env, h => bnd (ev P cl a env h) fun x h1 => (match x with
    | .ref p => (match h1.get p with
      | some (.ins c fs) => if P.fld c f = true then liftO (fs.lookup f) h1 else none
      | _ => none)
    | _ => none)
  | .tup es, env, h => bnd (evs P cl es env h) fun vs h1 => if vs.length ≤ lim then ok (.tup vs) h1 else none
  | .lst es, env, h => bnd (evs P cl es env h) fun vs h1 => if vs.length ≤ lim then ok (.ref h1.next) (h1.new (.lst vs)) else none
  | .dict es, env, h => (match es with
    | .nil => ok (.ref h.next) (h.new (.dic []))
    | _ => if es.len % 2 = 0 then bnd (evs P cl es env (h.new (.dic []))) fun vs h1 => dispO (h1.get h.next) (pairUp vs) h1 h.next else none)
  | .call f es ds, env, h => bnd (evs P cl es env h) fun vs h1 => cl f (vs ++ ds.map Cst.d) h1
  | .meth o m es ds, env, h => bnd (ev P cl o env h) fun x h1 => (match x with
    | .ref p => (match h1.get p with
      | some (.ins c fs) => (match P.mt c m, fs.lookup m with
        | some f, none => bnd (evs P cl es env h1) fun vs h2 => cl f (.ref p :: (vs ++ ds.map Cst.d)) h2
        | _, _ => none)
      | _ => none)
    | _ => none)
  | .new c es, env, h => bnd (evs P cl es env h) fun vs h1 => (match P.mt c "__init__" with
    | some f => bnd (cl f (.ref h1.next :: vs) (h1.new (.ins c []))) fun x h2 => (match x with
      | .non => ok (.ref h1.next) h2
      | _ => none)
    | none => none)
  | .bi b es, env, h => bnd (evs P cl es env h) fun vs h1 => biD b vs h1
  | .bm b o es, env, h => bnd (ev P cl o env h) fun x h1 => if rcv b x h1 = true then bnd (evs P cl es env h1) fun vs h2 => bmD b x vs h2 else none
  | .gix x e, env, h => (match P.glob x with
    | some (.tup xs) => bnd (ev P cl e env h) fun y h1 => gixD (.tup xs) y h1
    | _ => none)
  | .isi a t, env, h => bnd (ev P cl a env h) fun x h1 => liftO ((tyN x h1).map fun n => .bl (isTn n t)) h1
  | .isi2 a t u, env, h => bnd (ev P cl a env h) fun x h1 => liftO ((tyN x h1).map fun n => .bl (isTn n t || isTn n u)) h1
  | .comp elt own g k es tst, env, h => bnd (evs P cl es env h) fun vs h1 => (match walk k vs h1 with
    | some (items, gd) => if g.in_ own = true then compL (fun e1 h2 => ev P cl elt e1 h2) (fun e1 h2 => evT P cl tst e1 h2) g gd h1.next (wipeE env own) items (h1.new (.lst [])) else none
    | none => none)
  | .cpx elt own g k es tst, env, h => bnd (evs P cl es env h) fun vs h1 => (match walk k vs h1 with
    | some (items, gd) => if g.in_ own = true then compX (fun e1 h2 => ev P cl elt e1 h2) (fun e1 h2 => evT P cl tst e1 h2) g gd h1.next (wipeE env own) items (h1.new (.lst [])) else none
    | none => none)
  | .fst es, env, h => evJ P cl es Str.empty env h
  | .fmt a, env, h => bnd (ev P cl a env h) fun x h1 => (match x with
    | .str y => if y.length ≤ lim then ok (.str y) h1 else none
    | .int i => if big i then ok (.str (Str.ofString (toString i))) h1 else none
    | _ => none)
  | .rsl a, env, h => bnd (ev P cl a env h) fun x h1 => (match lstOf x h1 with
    | some xs => ok (.ref h1.next) (h1.new (.lst xs.reverse))
    | none => none)
  | .dictT, _, h => ok (.ref h.next) (h.new (.dit []))
  | .dgtT a es, env, h => bnd (ev P cl a env h) fun x h1 => bnd (evs P cl es env h1) fun ks h2 => (match x with
    | .ref p => if ks.length ≤ lim then (match dgetT h2 p ks with
      | some (some v) => ok v h2
      | _ => none) else none
    | _ => none)
  | .getT a es d, env, h => bnd (ev P cl a env h) fun x h1 => (match x with
    | .ref p => (match dgetT h1 p [] with
      | some _ => bnd (evs P cl es env h1) fun ks h2 => if ks.length ≤ lim then (match dgetT h2 p ks with
        | some (some v) => ok v h2
        | some none => ok d.d h2
        | none => none) else none
      | none => none)
    | _ => none)
  | .lck i e, env, h => (match env[i]? with
    | some (some (.ref a)) => (match h.get a with
      | some o => (match lckO o with
        | some o' => bndN (ev P cl e env (h.put a o')) fun x h2 => if frzO (h2.get a) = true then ok x (h2.put a o) else none
        | none => none)
      | none => none)
    | _ => none)
  | .new0 c, _, h => ok (.ref h.next) (h.new (.ins c []))
  | .isx i c, env, h => (match env[i]? with
    | some (some (.exc k a)) => if P.xk = some (k, a) then liftO ((P.exs k c).map .bl) h else none
    | _ => none)
  | .isxB i c, env, h => (match env[i]? with
    | some (some (.exc k a)) => if P.xk = some (k, a) then liftO ((P.exb k c).map .bl) h else none
    | _ => none)
  | .lrg a, env, h => bnd (ev P cl a env h) fun x h1 => (match x with
    | .int n => if 0 ≤ n ∧ n ≤ 1000000 then ok (.ref h1.next) (h1.new (.lst ((List.range n.toNat).map fun (i : Nat) => .int (i : Int)))) else none
    | _ => none)
  | .iso a c, env, h => bnd (ev P cl a env h) fun x h1 => (match x with
    | .xob k => liftO ((P.exs k c).map .bl) h1
    | _ => none)
  | .isoB a c, env, h => bnd (ev P cl a env h) fun x h1 => (match x with
    | .xob k => liftO ((P.exb k c).map .bl) h1
    | _ => none)
  | .isc a c, env, h => bnd (ev P cl a env h) fun x h1 => (match x with
    | .ref p => (match h1.get p with
      | some (.ins c1 fs) => liftO ((P.sub c1 c).map .bl) h1
      | _ => none)
    | _ => none)
noncomputable def evs (P : Prog) (cl : Cl) : Es → Env → Hm → Res (List D)
  | .nil, _, h => ok [] h
  | .cons e es, env, h => bnd (ev P cl e env h) fun x h1 => bnd (evs P cl es env h1) fun xs h2 => ok (x :: xs) h2
noncomputable def evJ (P : Prog) (cl : Cl) : Es → Str → Env → Hm → Res D
  | .nil, acc, _, h => ok (.str acc) h
  | .cons e es, acc, env, h => bnd (ev P cl e env h) fun x h1 => (match x with
    | .str y => if (acc ++ y).length ≤ lim then evJ P cl es (acc ++ y) env h1 else none
    | _ => none)
noncomputable def evO (P : Prog) (cl : Cl) : Eo → Env → Hm → Res (Option Int)
  | .none, _, h => ok none h
  | .some e, env, h => bnd (ev P cl e env h) fun x h1 => (match x with
    | .int i => ok (some i) h1
    | _ => none)
noncomputable def evT (P : Prog) (cl : Cl) : T → Env → Hm → Res Bool
  | .yes, _, h => ok true h
  | .cmp o a b, env, h => bnd (ev P cl a env h) fun x h1 => bnd (ev P cl b env h1) fun y h2 => liftO (cmpD o x y h2) h2
  | .chn o o' a b c, env, h => bnd (ev P cl a env h) fun x h1 => bnd (ev P cl b env h1) fun y h2 => (match cmpD o x y h2 with
    | some true => bnd (ev P cl c env h2) fun z h3 => liftO (cmpD o' y z h3) h3
    | some false => ok false h2
    | none => none)
  | .and a b, env, h => bnd (evT P cl a env h) fun k h1 => if k = true then evT P cl b env h1 else ok false h1
  | .or a b, env, h => bnd (evT P cl a env h) fun k h1 => if k = true then ok true h1 else evT P cl b env h1
  | .not a, env, h => bnd (evT P cl a env h) fun k h1 => ok (!k) h1
  | .tru a, env, h => bnd (ev P cl a env h) fun x h1 => liftO (truD x h1) h1
end

def toS {α : Type} (m : Res α) (env : Env) (f : α → Hm → Out) : Out := match m with
  | none => none
  | some (.error k, h) => some (.ex k, env, h)
  | some (.ok a, h) => f a h
@[simp] theorem toS_none {α : Type} (env : Env) (f : α → Hm → Out) : toS none env f = none := rfl
@[simp] theorem toS_error {α : Type} (k : String) (h : Hm) (env : Env) (f : α → Hm → Out) : toS (some (.error k, h)) env f = some (.ex k, env, h) := rfl
@[simp] theorem toS_ok {α : Type} (a : α) (h : Hm) (env : Env) (f : α → Hm → Out) : toS (some (.ok a, h)) env f = f a h := rfl
def nxt (env : Env) (h : Hm) : Out := some (.nx, env, h)
def thenS (m : Out) (f : Env → Hm → Out) : Out := match m with
  | some (.nx, env, h) => f env h
  | r => r
@[simp] theorem thenS_nx (env : Env) (h : Hm) (f : Env → Hm → Out) : thenS (some (.nx, env, h)) f = f env h := rfl
@[simp] theorem thenS_rt (d : D) (env : Env) (h : Hm) (f : Env → Hm → Out) : thenS (some (.rt d, env, h)) f = some (.rt d, env, h) := rfl
@[simp] theorem thenS_ex (k : String) (env : Env) (h : Hm) (f : Env → Hm → Out) : thenS (some (.ex k, env, h)) f = some (.ex k, env, h) := rfl
@[simp] theorem thenS_none (f : Env → Hm → Out) : thenS none f = none := rfl

open Classical in
noncomputable def forL (fb : Env → Hm → Out) (g : Tg) (gd : List (Nat × O)) : List D → Env → Hm → Out
  | [], env, h => if stays gd h then nxt env h else none
  | x :: xs, env, h => if stays gd h then (match asgT g x env with
    | none => none
    | some env1 => thenS (fb env1 h) fun env2 h2 => forL fb g gd xs env2 h2) else none
def whl (ft : Env → Hm → Res Bool) (fb : Env → Hm → Out) : Nat → Env → Hm → Out
  | 0, _, _ => none
  | n + 1, env, h => toS (ft env h) env fun b h1 => if b = true then thenS (fb env h1) fun env2 h2 => whl ft fb n env2 h2 else nxt env h1
def setF (fs : List (String × D)) (f : String) (v : D) : List (String × D) := match fs with
  | [] => [(f, v)]
  | (g, x) :: r => if g = f then (g, v) :: r else (g, x) :: setF r f v

def emptied (i : Nat) (m : Out) : Out := match m with
  | some (.nx, env, h) => some (.nx, env.set i none, h)
  | some (.rt d, env, h) => some (.rt d, env.set i none, h)
  | _ => none
open Classical in
noncomputable def oneA (m : Nat → Out) : Out := if h : ∃ r, ∀ a, m a = some r then some (choose h) else none
theorem oneA_of {m : Nat → Out} {r : Fl × Env × Hm} (e : oneA m = some r) (a : Nat) : m a = some r := by
  unfold oneA at e
  split at e
  · rename_i hh
    rw [← e]
    exact Classical.choose_spec hh a
  · cases e
def augD (o : Bop) (x y : D) : Option D := match o, x, y with
  | .add, .int i, .int j => some (.int (i + j))
  | .sub, .int i, .int j => some (.int (i - j))
  | _, _, _ => none
noncomputable def ex (P : Prog) (cl : Cl) : S → Env → Hm → Out
  | .skip, env, h => nxt env h
  | .seq a b, env, h => thenS (ex P cl a env h) fun env1 h1 => ex P cl b env1 h1
  | .asg i e, env, h => toS (ev P cl e env h) env fun x h1 => nxt (env.set i (some x)) h1
  | .unp is e, env, h => toS (ev P cl e env h) env fun x h1 => (match seqOf x h1 with
    | some xs => (match setN env is xs with
      | some env1 => nxt env1 h1
      | none => none)
    | none => none)
  | .sfld o f e, env, h => toS (ev P cl e env h) env fun x h1 => toS (ev P cl o env h1) env fun y h2 => (match y with
    | .ref p => (match h2.get p with
      | some (.ins c fs) => if P.fld c f = true ∧ fs.length < 1000 then nxt env (h2.put p (.ins c (setF fs f x))) else none
      | _ => none)
    | _ => none)
  | .sidx o i e, env, h => toS (ev P cl e env h) env fun x h1 => toS (ev P cl o env h1) env fun y h2 => toS (ev P cl i env h2) env fun z h3 => (match y, z with
    | .ref p, .int k => (match h3.get p with
      | some (.lst xs) => (match ixD xs.length k with
        | some j => nxt env (h3.put p (.lst (xs.set j x)))
        | none => none)
      | _ => none)
    | _, _ => none)
  | .dput o i e, env, h => toS (ev P cl e env h) env fun x h1 => toS (ev P cl o env h1) env fun y h2 => toS (ev P cl i env h2) env fun z h3 => (match y with
    | .ref p => (match dput h3 p z x with
      | some h4 => nxt env h4
      | none => none)
    | _ => none)
  | .aug i o e, env, h => (match env[i]? with
    | some (some x) => toS (ev P cl e env h) env fun y h1 => (match augD o x y with
      | some z => nxt (env.set i (some z)) h1
      | none => none)
    | _ => none)
  | .augf o f op e, env, h => toS (ev P cl o env h) env fun y h1 => (match y with
    | .ref p => (match h1.get p with
      | some (.ins c fs) => if P.fld c f = true then (match fs.lookup f with
        | some x => toS (ev P cl e env h1) env fun v h2 => (match augD op x v with
          | some z => (match h2.get p with
            | some (.ins c' fs') => if c' = c ∧ fs'.length < 1000 then nxt env (h2.put p (.ins c (setF fs' f z))) else none
            | _ => none)
          | none => none)
        | none => none) else none
      | _ => none)
    | _ => none)
  | .augi o i op e, env, h => toS (ev P cl o env h) env fun y h1 => toS (ev P cl i env h1) env fun z h2 => (match y, z with
    | .ref p, .int k => (match h2.get p with
      | some (.lst xs) => if 0 ≤ k then (match xs[k.toNat]? with
        | some x => toS (ev P cl e env h2) env fun v h3 => (match augD op x v, h3.get p with
          | some w, some (.lst ys) => if k.toNat < ys.length then nxt env (h3.put p (.lst (ys.set k.toNat w))) else none
          | _, _ => none)
        | none => none) else none
      | _ => none)
    | _, _ => none)
  | .ite c a b, env, h => toS (evT P cl c env h) env fun k h1 => if k = true then ex P cl a env h1 else ex P cl b env h1
  | .for_ g k es body, env, h => toS (evs P cl es env h) env fun vs h1 => (match walk k vs h1 with
    | some (items, gd) => forL (fun e1 h2 => ex P cl body e1 h2) g gd items env h1
    | none => none)
  | .wh c body, env, h => whl (fun e1 h1 => evT P cl c e1 h1) (fun e1 h1 => ex P cl body e1 h1) P.lf env h
  | .ret e, env, h => toS (ev P cl e env h) env fun x h1 => some (.rt x, env, h1)
  | .drop e, env, h => toS (ev P cl e env h) env fun _ h1 => nxt env h1
  | .rai c, env, h => some (.ex c, env, h)
  | .try_ b c x s, env, h => (match ex P cl b env h with
    | some (.ex k, env2, h2) => (match P.exm k c with
      | some true => (match x with
        | none => (match ex P cl s env2 h2 with
          | some (.ex _, _, _) => none
          | r => r)
        | some i => oneA fun a => emptied i (ex { P with xk := some (k, a) } cl s (env2.set i (some (.exc k a))) h2))
      | some false => some (.ex k, env2, h2)
      | none => none)
    | r => r)
  | .tryK b c i j, env, h => (match ex P cl b env h with
    | some (.ex k, env2, h2) => if P.exm k c = some true ∧ i < env2.length ∧ i ≠ j then nxt ((env2.set j (some (.xob k))).set i none) h2 else none
    | r => r)
  | .dputT o es e, env, h => toS (ev P cl e env h) env fun x h1 => toS (ev P cl o env h1) env fun y h2 => toS (evs P cl es env h2) env fun ks h3 => (match y with
    | .ref p => if ks.length ≤ lim then (match dputT h3 p ks x with
      | some h4 => nxt env h4
      | none => none) else none
    | _ => none)
  | .par i j es, env, h => toS (evs P cl es env h) env fun vs h1 => (match vs with
    | [x, y] => nxt ((env.set i (some x)).set j (some y)) h1
    | _ => none)
  | .lck i s, env, h => (match env[i]? with
    | some (some (.ref a)) => (match h.get a with
      | some o => (match lckO o with
        | some o' => (match ex P cl s env (h.put a o') with
          | some (.nx, env2, h2) => if frzO (h2.get a) = true then some (.nx, env2, h2.put a o) else none
          | some (.rt d, env2, h2) => if frzO (h2.get a) = true then some (.rt d, env2, h2.put a o) else none
          | _ => none)
        | none => none)
      | none => none)
    | _ => none)

def start (n : Nat) (ds : List D) : Env := ds.map some ++ List.replicate (n - ds.length) none
def endF (o : Out) : Res D := match o with
  | none => none
  | some (.nx, _, h) => some (.ok .non, h)
  | some (.rt d, _, h) => some (.ok d, h)
  | some (.ex k, _, h) => some (.error k, h)
noncomputable def callF (P : Prog) : Nat → Cl
  | 0 => fun _ _ _ => none
  | n + 1 => fun f ds h => match P.fn f with
    | none => none
    | some F => if ds.length = F.np then endF (ex P (callF P n) F.body (start F.ns ds) h) else none
end Z

set_option maxRecDepth 100000
namespace Z
open PySem L2

abbrev Rho := Nat → Addr
def rn (r : Rho) (n : Nat) (p : Addr) : Rho := fun a => if a = n then p else r a
def ca (K : PySem.W.Frag) (c : String) : Addr := He.ga K (Str.ofString c)

abbrev xT : HO := .ext fun _ => True
mutual
inductive RepV (K : PySem.W.Frag) (r : Rho) (n : Nat) (H : Hp) : V → D → Prop
  | non : RepV K r n H .non .non
  | bl (b : Bool) : RepV K r n H (.bl b) (.bl b)
  | int (i : Int) : RepV K r n H (.int i) (.int i)
  | str (s : Str) : RepV K r n H (.str s) (.str s)
  | tup {a : Addr} {vs : List V} {ds : List D} (h : SqT K H a vs) (q : RepL K r n H vs ds) : RepV K r n H (.ref a) (.tup ds)
  | ref {a : Nat} (h : a < n) : RepV K r n H (.ref (r a)) (.ref a)
  | exc (k : String) (a : Addr) : RepV K r n H (.ref a) (.exc k a)
  | xob (k : String) {a : Addr} {oe : Obj} (h : H a = some (.frz oe xT)) (z : Zc (.ref (ca K k)) none oe) (f : ∃ vs, oe.data = .fields vs) : RepV K r n H (.ref a) (.xob k)
inductive RepL (K : PySem.W.Frag) (r : Rho) (n : Nat) (H : Hp) : List V → List D → Prop
  | nil : RepL K r n H [] []
  | cons {v : V} {vs : List V} {d : D} {ds : List D} : RepV K r n H v d → RepL K r n H vs ds → RepL K r n H (v :: vs) (d :: ds)
end

structure Ext0 (K : PySem.W.Frag) (r : Rho) (n : Nat) (H : Hp) (r' : Rho) (n' : Nat) (H' : Hp) : Prop where
  le : n ≤ n'
  at_ : ∀ a, a < n → r' a = r a
  tup : ∀ a vs, SqT K H a vs → SqT K H' a vs
  xob : ∀ a ob, H a = some (.frz ob xT) → H' a = some (.frz ob xT)
structure Ext (K : PySem.W.Frag) (r : Rho) (n : Nat) (H : Hp) (r' : Rho) (n' : Nat) (H' : Hp) : Prop extends Ext0 K r n H r' n' H' where
  frz : ∀ a ob u, H a = some (.frz ob u) → H' a = some (.frz ob u)
section
variable {K : PySem.W.Frag} {r r' r2 : Rho} {n n' n2 : Nat} {H H' H2 : Hp}
theorem Ext.refl : Ext K r n H r n H := ⟨⟨Nat.le_refl _, fun _ _ => rfl, fun _ _ h => h, fun _ _ h => h⟩, fun _ _ _ h => h⟩
theorem Ext.trans (a : Ext K r n H r' n' H') (b : Ext K r' n' H' r2 n2 H2) : Ext K r n H r2 n2 H2 :=
  ⟨⟨Nat.le_trans a.le b.le, fun x h => (b.at_ x (Nat.lt_of_lt_of_le h a.le)).trans (a.at_ x h), fun x vs h => b.tup x vs (a.tup x vs h), fun x ob h => b.xob x ob (a.xob x ob h)⟩, fun x ob u h => b.frz x ob u (a.frz x ob u h)⟩
mutual
theorem RepV.ext0 (e : Ext0 K r n H r' n' H') : ∀ {d : D} {v : V}, RepV K r n H v d → RepV K r' n' H' v d
  | _, _, .non => .non
  | _, _, .bl b => .bl b
  | _, _, .int b => .int b
  | _, _, .str b => .str b
  | _, _, .tup h q => .tup (e.tup _ _ h) (RepL.ext0 e q)
  | _, _, .ref (a := a) h => by
    rw [← e.at_ a h]
    exact .ref (Nat.lt_of_lt_of_le h e.le)
  | _, _, .exc k a => .exc k a
  | _, _, .xob k h z f => .xob k (e.xob _ _ h) z f
theorem RepL.ext0 (e : Ext0 K r n H r' n' H') : ∀ {ds : List D} {vs : List V}, RepL K r n H vs ds → RepL K r' n' H' vs ds
  | _, _, .nil => .nil
  | _, _, .cons a b => .cons (RepV.ext0 e a) (RepL.ext0 e b)
end
theorem RepV.ext (e : Ext K r n H r' n' H') {d : D} {v : V} (q : RepV K r n H v d) : RepV K r' n' H' v d := RepV.ext0 e.toExt0 q
theorem RepL.ext (e : Ext K r n H r' n' H') {ds : List D} {vs : List V} (q : RepL K r n H vs ds) : RepL K r' n' H' vs ds := RepL.ext0 e.toExt0 q
theorem RepL.len : ∀ {ds : List D} {vs : List V}, RepL K r n H vs ds → vs.length = ds.length
  | _, _, .nil => rfl
  | _, _, .cons a b => congrArg Nat.succ (RepL.len b)
theorem RepL.get : ∀ {ds : List D} {vs : List V} {i : Nat} {d : D}, RepL K r n H vs ds → ds[i]? = some d → ∃ v, vs[i]? = some v ∧ RepV K r n H v d
  | _, _, _, _, .nil, h => by simp at h
  | _, _, 0, _, .cons a b, h => by simp at h; subst h; exact ⟨_, rfl, a⟩
  | _, _, i + 1, _, .cons a b, h => by
    obtain ⟨v, e, q⟩ := RepL.get (i := i) b (by simpa using h)
    exact ⟨v, by simpa using e, q⟩
theorem RepL.app : ∀ {ds es : List D} {vs us : List V}, RepL K r n H vs ds → RepL K r n H us es → RepL K r n H (vs ++ us) (ds ++ es)
  | _, _, _, _, .nil, q => q
  | _, _, _, _, .cons a b, q => .cons a (RepL.app b q)
theorem RepL.set {v : V} {d : D} (q : RepV K r n H v d) : ∀ {ds : List D} {vs : List V} (i : Nat), RepL K r n H vs ds → RepL K r n H (vs.set i v) (ds.set i d)
  | _, _, _, .nil => .nil
  | _, _, 0, .cons a b => .cons q b
  | _, _, i + 1, .cons a b => .cons a (RepL.set q i b)
theorem RepL.take : ∀ {ds : List D} {vs : List V} (i : Nat), RepL K r n H vs ds → RepL K r n H (vs.take i) (ds.take i)
  | _, _, _, .nil => by simp; exact .nil
  | _, _, 0, .cons a b => .nil
  | _, _, i + 1, .cons a b => .cons a (RepL.take i b)
theorem RepL.drop : ∀ {ds : List D} {vs : List V} (i : Nat), RepL K r n H vs ds → RepL K r n H (vs.drop i) (ds.drop i)
  | _, _, _, .nil => by simp; exact .nil
  | _, _, 0, .cons a b => .cons a b
  | _, _, i + 1, .cons a b => RepL.drop i b
theorem RepL.rep {ds : List D} {vs : List V} (q : RepL K r n H vs ds) : ∀ k : Nat, RepL K r n H (List.replicate k vs).flatten (List.replicate k ds).flatten
  | 0 => .nil
  | k + 1 => by
    rw [List.replicate_succ, List.replicate_succ, List.flatten_cons, List.flatten_cons]
    exact q.app (RepL.rep q k)
theorem RepL.rev : ∀ {ds : List D} {vs : List V}, RepL K r n H vs ds → RepL K r n H vs.reverse ds.reverse
  | _, _, .nil => .nil
  | _, _, .cons a b => by
    rw [List.reverse_cons, List.reverse_cons]
    exact (RepL.rev b).app (.cons a .nil)
theorem RepL.append1 {ds : List D} {vs : List V} {v : V} {d : D} (q : RepL K r n H vs ds) (a : RepV K r n H v d) : RepL K r n H (vs ++ [v]) (ds ++ [d]) := q.app (.cons a .nil)
theorem RepL.ints : ∀ {ds : List D} {vs : List V} {ns : List Int}, RepL K r n H vs ds → ints? ds = some ns → vs = ns.map V.int
  | _, _, _, .nil, e => by cases e; rfl
  | _, _, _, .cons (.int i) b, e => by
    unfold ints? at e
    obtain ⟨ms, e1, rfl⟩ := Option.map_eq_some_iff.mp e
    rw [RepL.ints b e1]
    rfl
  | _, _, _, .cons .non b, e => by cases e
  | _, _, _, .cons (.bl _) b, e => by cases e
  | _, _, _, .cons (.str _) b, e => by cases e
  | _, _, _, .cons (.tup _ _) b, e => by cases e
  | _, _, _, .cons (.ref _) b, e => by cases e
theorem RepL.bls : ∀ {ds : List D} {vs : List V} {ns : List Bool}, RepL K r n H vs ds → bls? ds = some ns → vs = ns.map V.bl
  | _, _, _, .nil, e => by cases e; rfl
  | _, _, _, .cons (.bl i) b, e => by
    unfold bls? at e
    obtain ⟨ms, e1, rfl⟩ := Option.map_eq_some_iff.mp e
    rw [RepL.bls b e1]
    rfl
  | _, _, _, .cons .non b, e => by cases e
  | _, _, _, .cons (.int _) b, e => by cases e
  | _, _, _, .cons (.str _) b, e => by cases e
  | _, _, _, .cons (.tup _ _) b, e => by cases e
  | _, _, _, .cons (.ref _) b, e => by cases e
theorem RepL.strs : ∀ {ds : List D} {vs : List V} {ns : List Str}, RepL K r n H vs ds → strs? ds = some ns → vs = ns.map V.str
  | _, _, _, .nil, e => by cases e; rfl
  | _, _, _, .cons (.str i) b, e => by
    unfold strs? at e
    obtain ⟨ms, e1, rfl⟩ := Option.map_eq_some_iff.mp e
    rw [RepL.strs b e1]
    rfl
  | _, _, _, .cons .non b, e => by cases e
  | _, _, _, .cons (.int _) b, e => by cases e
  | _, _, _, .cons (.bl _) b, e => by cases e
  | _, _, _, .cons (.tup _ _) b, e => by cases e
  | _, _, _, .cons (.ref _) b, e => by cases e
theorem repInts : ∀ ns : List Int, RepL K r n H (ns.map V.int) (ns.map D.int)
  | [] => .nil
  | i :: ns => .cons (.int i) (repInts ns)
theorem repStrs : ∀ ns : List Str, RepL K r n H (ns.map V.str) (ns.map D.str)
  | [] => .nil
  | i :: ns => .cons (.str i) (repStrs ns)
end

def RepK {κ : Type} (K : PySem.W.Frag) (r : Rho) (n : Nat) (H : Hp) (ws : List (κ × V)) (kvs : List (κ × D)) : Prop := ws.map (·.1) = kvs.map (·.1) ∧ RepL K r n H (ws.map (·.2)) (kvs.map (·.2))
def RepF (K : PySem.W.Frag) (r : Rho) (n : Nat) (H : Hp) (ws : List (Str × V)) (fs : List (String × D)) : Prop := ws.map (·.1) = fs.map (fun f => Str.ofString f.1) ∧ RepL K r n H (ws.map (·.2)) (fs.map (·.2))
def SqF (K : PySem.W.Frag) (H : Hp) (a : Addr) (xs : List V) : Prop :=
  (∃ ob, H a = some (.frz ob (.lst xs))) ∨
    ∃ (o : Obj) (its : Array Value) (n : Nat), K.lookup a = some o ∧ o.cls = .type "list" ∧ o.dict = none ∧ o.data = .seq its n ∧ its.size ≤ sizeLine ∧ Vals xs its.toList
theorem SqF.l {K : PySem.W.Frag} {H : Hp} {a : Addr} {xs : List V} (h : SqF K H a xs) : SqL K H a xs := by
  rcases h with h | h
  · exact .inl (.inr h)
  · exact .inr h
def RepO (K : PySem.W.Frag) (r : Rho) (n : Nat) (H : Hp) (p : Addr) : O → Prop
  | .lst xs => ∃ vs, H p = some (.lst vs) ∧ RepL K r n H vs xs
  | .fz xs => ∃ vs, SqF K H p vs ∧ RepL K r n H vs xs
  | .dic kvs => ∃ ws, H p = some (.dK ws) ∧ RepK K r n H ws kvs
  | .dit kvs => ∃ ws, H p = some (.dT ws) ∧ RepK K r n H ws kvs
  | .ins c fs => ∃ dx ws, H p = some (.ins (ca K c) dx ws) ∧ RepF K r n H ws fs
  | .fzd kvs => ∃ ob ws, H p = some (.frz ob (.dK ws)) ∧ RepK K r n H ws kvs
  | .fzt kvs => ∃ ob ws, H p = some (.frz ob (.dT ws)) ∧ RepK K r n H ws kvs
def mutO : O → Bool
  | .fz _ => false
  | .fzd _ => false
  | .fzt _ => false
  | _ => true
def ownO : O → Bool
  | .fz _ => false
  | _ => true
theorem own_of {o : O} (m : mutO o = true) : ownO o = true := by cases o <;> first | rfl | cases m
def mutH : HO → Bool
  | .lst _ => true
  | .dK _ => true
  | .dT _ => true
  | .ins _ _ _ => true
  | _ => false
structure Sim (K : PySem.W.Frag) (r : Rho) (h : Hm) (H : Hp) : Prop where
  obj : ∀ a o, h.get a = some o → a < h.next ∧ RepO K r h.next H (r a) o
  inj : ∀ a b oa ob, h.get a = some oa → h.get b = some ob → ownO oa = true → ownO ob = true → r a = r b → a = b
section
variable {K : PySem.W.Frag} {r r' : Rho} {n n' : Nat} {h h' : Hm} {H H' : Hp} {p : Addr} {o : O}
theorem RepO.mut (q : RepO K r n H p o) (m : mutO o = true) : ∃ u, H p = some u ∧ mutH u = true := by
  cases o with
  | lst xs => obtain ⟨vs, e, _⟩ := q; exact ⟨_, e, rfl⟩
  | fz xs => cases m
  | dic kvs => obtain ⟨vs, e, _⟩ := q; exact ⟨_, e, rfl⟩
  | dit kvs => obtain ⟨vs, e, _⟩ := q; exact ⟨_, e, rfl⟩
  | ins c fs => obtain ⟨dx, vs, e, _⟩ := q; exact ⟨_, e, rfl⟩
  | fzd kvs => cases m
  | fzt kvs => cases m
theorem RepO.own (q : RepO K r n H p o) (m : ownO o = true) : ∃ u, H p = some u := by
  cases o with
  | lst xs => obtain ⟨vs, e, _⟩ := q; exact ⟨_, e⟩
  | fz xs => cases m
  | dic kvs => obtain ⟨vs, e, _⟩ := q; exact ⟨_, e⟩
  | dit kvs => obtain ⟨vs, e, _⟩ := q; exact ⟨_, e⟩
  | ins c fs => obtain ⟨dx, vs, e, _⟩ := q; exact ⟨_, e⟩
  | fzd kvs => obtain ⟨dx, vs, e, _⟩ := q; exact ⟨_, e⟩
  | fzt kvs => obtain ⟨dx, vs, e, _⟩ := q; exact ⟨_, e⟩
theorem RepK.ext0 {κ : Type} {ws : List (κ × V)} {kvs : List (κ × D)} (e : Ext0 K r n H r' n' H') (q : RepK K r n H ws kvs) : RepK K r' n' H' ws kvs := ⟨q.1, q.2.ext0 e⟩
theorem RepF.ext0 {ws : List (Str × V)} {kvs : List (String × D)} (e : Ext0 K r n H r' n' H') (q : RepF K r n H ws kvs) : RepF K r' n' H' ws kvs := ⟨q.1, q.2.ext0 e⟩
theorem RepK.ext {κ : Type} {ws : List (κ × V)} {kvs : List (κ × D)} (e : Ext K r n H r' n' H') (q : RepK K r n H ws kvs) : RepK K r' n' H' ws kvs := ⟨q.1, q.2.ext e⟩
theorem RepF.ext {ws : List (Str × V)} {kvs : List (String × D)} (e : Ext K r n H r' n' H') (q : RepF K r n H ws kvs) : RepF K r' n' H' ws kvs := ⟨q.1, q.2.ext e⟩
theorem RepO.keep (e : Ext0 K r n H r' n' H') (q : RepO K r n H p o) (k : ownO o = true → H' p = H p) (kf : ∀ vs, SqF K H p vs → SqF K H' p vs) : RepO K r' n' H' p o := by
  cases o with
  | lst xs => obtain ⟨vs, a, b⟩ := q; exact ⟨vs, (k rfl).trans a, b.ext0 e⟩
  | fz xs =>
    obtain ⟨vs, a, b⟩ := q
    exact ⟨vs, kf vs a, b.ext0 e⟩
  | dic kvs => obtain ⟨vs, a, b⟩ := q; exact ⟨vs, (k rfl).trans a, RepK.ext0 e b⟩
  | dit kvs => obtain ⟨vs, a, b⟩ := q; exact ⟨vs, (k rfl).trans a, RepK.ext0 e b⟩
  | ins c fs => obtain ⟨dx, vs, a, b⟩ := q; exact ⟨dx, vs, (k rfl).trans a, RepF.ext0 e b⟩
  | fzd kvs => obtain ⟨dx, vs, a, b⟩ := q; exact ⟨dx, vs, (k rfl).trans a, RepK.ext0 e b⟩
  | fzt kvs => obtain ⟨dx, vs, a, b⟩ := q; exact ⟨dx, vs, (k rfl).trans a, RepK.ext0 e b⟩
def Free (H : Hp) (q : Addr) : Prop := H q = none ∨ ∃ v, H q = some v ∧ mutH v = true
theorem Free.rd {q a : Addr} {u : HO} {x : HO} (f : Free H q) (h : Rd H a x) (nx : mutH x = false) : Rd (upd H q u) a x := by
  have ne : a ≠ q := by
    rintro rfl
    rcases f with f | ⟨v, f, m⟩
    · rcases h with h | ⟨ob, h⟩ <;> rw [f] at h <;> cases h
    · rcases h with h | ⟨ob, h⟩
      · rw [f] at h; cases h; rw [m] at nx; cases nx
      · rw [f] at h; cases h; cases m
  rcases h with h | ⟨ob, h⟩
  · exact .inl (by rw [upd_ne ne]; exact h)
  · exact .inr ⟨ob, by rw [upd_ne ne]; exact h⟩
theorem Free.sqt {q a : Addr} {u : HO} {xs : List V} (f : Free H q) (h : SqT K H a xs) : SqT K (upd H q u) a xs := by
  rcases h with h | h
  · exact .inl (f.rd h rfl)
  · exact .inr h
theorem Free.sqf {q a : Addr} {u : HO} {xs : List V} (f : Free H q) (h : SqF K H a xs) : SqF K (upd H q u) a xs := by
  rcases h with ⟨ob, h⟩ | h
  · have ne : a ≠ q := by
      rintro rfl
      rcases f with f | ⟨v, f, m⟩
      · rw [f] at h; cases h
      · rw [f] at h; cases h; cases m
    exact .inl ⟨ob, by rw [upd_ne ne]; exact h⟩
  · exact .inr h
theorem Free.frz {q a : Addr} {ob : Obj} {u x : HO} (f : Free H q) (h : H a = some (.frz ob x)) : upd H q u a = some (.frz ob x) := by
  have ne : a ≠ q := by
    rintro rfl
    rcases f with f | ⟨v, f, m⟩
    · rw [f] at h; cases h
    · rw [f] at h; cases h; cases m
  rw [upd_ne ne]; exact h
theorem Free.ext {q : Addr} {u : HO} (f : Free H q) : Ext K r n H r n (upd H q u) := ⟨⟨Nat.le_refl _, fun _ _ => rfl, fun _ _ h => f.sqt h, fun _ _ h => f.frz h⟩, fun _ _ _ h => f.frz h⟩
theorem Free.extN {q : Addr} {u : HO} (f : Free H q) : Ext K r n H (rn r n q) (n + 1) (upd H q u) :=
  ⟨⟨Nat.le_succ _, fun a ha => by unfold rn; rw [if_neg (by omega)], fun _ _ h => f.sqt h, fun _ _ h => f.frz h⟩, fun _ _ _ h => f.frz h⟩
theorem rn_at {q : Addr} : rn r n q n = q := by unfold rn; rw [if_pos rfl]
theorem rn_old {q : Addr} {a : Nat} (ha : a < n) : rn r n q a = r a := by unfold rn; rw [if_neg (by omega)]
theorem Sim.ne (S : Sim K r h H) {a : Nat} {oa : O} {q : Addr} (ha : h.get a = some oa) (m : ownO oa = true) (hq : H q = none) : r a ≠ q := by
  obtain ⟨u, e⟩ := (S.obj a oa ha).2.own m
  rintro rfl
  rw [hq] at e
  cases e
theorem Sim.grow (S : Sim K r h H) {q : Addr} {u : HO} (hq : H q = none) : Sim K r h (upd H q u) := by
  refine ⟨fun a o ha => ⟨(S.obj a o ha).1, ?_⟩, S.inj⟩
  exact RepO.keep (Free.ext (.inl hq)).toExt0 (S.obj a o ha).2 (fun m => upd_ne (S.ne ha m hq)) fun vs h => Free.sqf (.inl hq) h
theorem Sim.new (S : Sim K r h H) {q : Addr} {u : HO} {o : O} (hq : H q = none) (m : mutO o = true) (w : RepO K (rn r h.next q) (h.next + 1) (upd H q u) q o) : Sim K (rn r h.next q) (h.new o) (upd H q u) := by
  have old : ∀ a oa, h.get a = some oa → a < h.next := fun a oa ha => (S.obj a oa ha).1
  refine ⟨fun a oa ha => ?_, fun a b oa ob ha hb ma mb e => ?_⟩
  · rw [new_get] at ha
    by_cases ea : a = h.next
    · subst ea
      rw [if_pos rfl] at ha
      cases ha
      rw [rn_at]
      exact ⟨Nat.lt_succ_self _, w⟩
    · rw [if_neg ea] at ha
      have la := old a oa ha
      rw [rn_old la]
      exact ⟨Nat.lt_succ_of_lt la, RepO.keep (Free.extN (.inl hq)).toExt0 (S.obj a oa ha).2 (fun m => upd_ne (S.ne ha m hq)) fun vs h => Free.sqf (.inl hq) h⟩
  · rw [new_get] at ha hb
    by_cases ea : a = h.next
    · by_cases eb : b = h.next
      · rw [ea, eb]
      · rw [if_neg eb] at hb
        subst ea
        rw [rn_at, rn_old (old b ob hb)] at e
        exact absurd e.symm (S.ne hb mb hq)
    · rw [if_neg ea] at ha
      by_cases eb : b = h.next
      · subst eb
        rw [rn_at, rn_old (old a oa ha)] at e
        exact absurd e (S.ne ha ma hq)
      · rw [if_neg eb] at hb
        rw [rn_old (old a oa ha), rn_old (old b ob hb)] at e
        exact S.inj a b oa ob ha hb ma mb e
theorem Sim.free (S : Sim K r h H) {a : Nat} {o0 : O} (ha : h.get a = some o0) (m0 : mutO o0 = true) : Free H (r a) := .inr ((S.obj a o0 ha).2.mut m0)
theorem Sim.put (S : Sim K r h H) {a : Nat} {o0 o : O} {u : HO} (ha : h.get a = some o0) (m0 : mutO o0 = true) (m : ownO o = true) (w : RepO K r h.next (upd H (r a) u) (r a) o) : Sim K r (h.put a o) (upd H (r a) u) := by
  have f := S.free ha m0
  have m0 := own_of m0
  refine ⟨fun b ob hb => ?_, fun b c ob oc hb hc mb mc e => ?_⟩
  · rw [put_get] at hb
    by_cases eb : b = a
    · subst eb
      rw [if_pos rfl] at hb
      cases hb
      exact ⟨(S.obj b o0 ha).1, w⟩
    · rw [if_neg eb] at hb
      exact ⟨(S.obj b ob hb).1, RepO.keep f.ext.toExt0 (S.obj b ob hb).2 (fun mb => upd_ne fun e => eb (S.inj b a ob o0 hb ha mb m0 e)) fun vs h => f.sqf h⟩
  · rw [put_get] at hb hc
    by_cases eb : b = a
    · by_cases ec : c = a
      · rw [eb, ec]
      · rw [if_neg ec] at hc
        subst eb
        exact S.inj b c o0 oc ha hc m0 mc e
    · rw [if_neg eb] at hb
      by_cases ec : c = a
      · subst ec
        exact S.inj b c ob o0 hb ha mb m0 e
      · rw [if_neg ec] at hc
        exact S.inj b c ob oc hb hc mb mc e
end

section
variable {K : PySem.W.Frag} {r r' r2 : Rho} {n n' n2 : Nat} {h h2 : Hm} {H H2 : Hp} {p d : Addr} {o o1 : O} {ob : Obj} {u : HO}
def dctH : HO → Bool
  | .dK _ => true
  | .dT _ => true
  | _ => false
theorem dct_mut (m : dctH u = true) : mutH u = true ∧ Mut (some u) := by cases u <;> first | exact ⟨rfl, trivial⟩ | cases m
theorem open0 (hd : H d = some (.frz ob u)) (m : dctH u = true) : Ext0 K r n H r n (upd H d u) := by
  refine ⟨Nat.le_refl _, fun _ _ => rfl, fun a vs h => ?_, fun a ob' h => by
    have ne : a ≠ d := by rintro rfl; rw [hd] at h; cases h; cases m
    rw [upd_ne ne]; exact h⟩
  rcases h with h | h
  · have ne : a ≠ d := by
      rintro rfl
      rcases h with h | ⟨o', h⟩
      · rw [hd] at h; cases h
      · rw [hd] at h; cases h; cases m
    refine .inl ?_
    rcases h with h | ⟨o', h⟩
    · exact .inl (by rw [upd_ne ne]; exact h)
    · exact .inr ⟨o', by rw [upd_ne ne]; exact h⟩
  · exact .inr h
theorem Ext.open (x : Ext K r n (upd H d (.frz ob u)) r2 n2 H2) (hd : H d = some u) (m : dctH u = true) : Ext K r n H r2 n2 (upd H2 d u) := by
  have f : Free H d := .inr ⟨u, hd, (dct_mut m).1⟩
  have h2 : H2 d = some (.frz ob u) := x.frz d ob u upd_same
  refine ⟨⟨x.le, x.at_, fun a vs h => (open0 (r := r) (n := n) h2 m).tup a vs (x.tup a vs (f.sqt h)), fun a ob' h => (open0 (K := K) (r := r) (n := n) h2 m).xob a ob' (x.xob a ob' (f.frz h))⟩, fun a o' v h => ?_⟩
  have ne : a ≠ d := by
    rintro rfl
    rw [hd] at h; cases h; cases m
  rw [upd_ne ne]
  exact x.frz a o' v (by rw [upd_ne ne]; exact h)
theorem Sim.open (S : Sim K r h H) {a : Nat} (ha : h.get a = some o1) (f1 : frzO (some o1) = true) (m : ownO o = true) (hd : H (r a) = some (.frz ob u)) (mu : dctH u = true) (w : RepO K r h.next (upd H (r a) u) (r a) o) : Sim K r (h.put a o) (upd H (r a) u) := by
  have m0 : ownO o1 = true := by cases o1 <;> first | rfl | cases f1
  refine ⟨fun b ob2 hb => ?_, fun b c ob2 oc hb hc mb mc e => ?_⟩
  · rw [put_get] at hb
    by_cases eb : b = a
    · subst eb
      rw [if_pos rfl] at hb
      cases hb
      exact ⟨(S.obj b o1 ha).1, w⟩
    · rw [if_neg eb] at hb
      refine ⟨(S.obj b ob2 hb).1, RepO.keep (open0 hd mu) (S.obj b ob2 hb).2 (fun mb => upd_ne fun e => eb (S.inj b a ob2 o1 hb ha mb m0 e)) fun vs h => ?_⟩
      rcases h with ⟨o', h⟩ | h
      · have ne : r b ≠ r a := by
          intro e
          rw [e, hd] at h; cases h; cases mu
        exact .inl ⟨o', by rw [upd_ne ne]; exact h⟩
      · exact .inr h
  · rw [put_get] at hb hc
    by_cases eb : b = a
    · by_cases ec : c = a
      · rw [eb, ec]
      · rw [if_neg ec] at hc
        subst eb
        exact S.inj b c o1 oc ha hc m0 mc e
    · rw [if_neg eb] at hb
      by_cases ec : c = a
      · subst ec
        exact S.inj b c ob2 o1 hb ha mb m0 e
      · rw [if_neg ec] at hc
        exact S.inj b c ob2 oc hb hc mb mc e
theorem Sim.lock (S : Sim K r h H) {a : Nat} {o' : O} (ha : h.get a = some o) (e : lckO o = some o') : ∃ u, H (r a) = some u ∧ dctH u = true ∧ ∀ ob, Sim K r (h.put a o') (upd H (r a) (.frz ob u)) ∧
    ∀ r2 h2 H2, Sim K r2 h2 H2 → Ext K r h.next (upd H (r a) (.frz ob u)) r2 h2.next H2 → frzO (h2.get a) = true →
      r2 a = r a ∧ H2 (r a) = some (.frz ob u) ∧ Sim K r2 (h2.put a o) (upd H2 (r a) u) ∧ Ext K r h.next H r2 h2.next (upd H2 (r a) u) ∧ Ext0 K r2 h2.next H2 r2 h2.next (upd H2 (r a) u) := by
  obtain ⟨la, w⟩ := S.obj a o ha
  cases o with
  | dic kvs =>
    cases e
    obtain ⟨ws, h1, q⟩ := w
    refine ⟨_, h1, rfl, fun ob => ?_⟩
    have f : Free H (r a) := S.free ha rfl
    refine ⟨S.put ha rfl rfl ⟨ob, ws, upd_same, RepK.ext f.ext q⟩, fun r2 h2 H2 S2 x f2 => ?_⟩
    have er : r2 a = r a := x.at_ a la
    have hd : H2 (r a) = some (.frz ob (.dK ws)) := x.frz _ _ _ upd_same
    obtain ⟨o2, ho2⟩ : ∃ o2, h2.get a = some o2 := by
      cases q2 : h2.get a with
      | none => rw [q2] at f2; cases f2
      | some o2 => exact ⟨o2, rfl⟩
    rw [ho2] at f2
    have x2 := x.open h1 rfl
    refine ⟨er, hd, ?_, x2, open0 hd rfl⟩
    have S3 := S2.open (o := .dic kvs) (u := .dK ws) (ob := ob) ho2 f2 rfl (by rw [er]; exact hd) rfl (by rw [er]; exact ⟨ws, upd_same, RepK.ext x2 q⟩)
    rw [er] at S3
    exact S3
  | dit kvs =>
    cases e
    obtain ⟨ws, h1, q⟩ := w
    refine ⟨_, h1, rfl, fun ob => ?_⟩
    have f : Free H (r a) := S.free ha rfl
    refine ⟨S.put ha rfl rfl ⟨ob, ws, upd_same, RepK.ext f.ext q⟩, fun r2 h2 H2 S2 x f2 => ?_⟩
    have er : r2 a = r a := x.at_ a la
    have hd : H2 (r a) = some (.frz ob (.dT ws)) := x.frz _ _ _ upd_same
    obtain ⟨o2, ho2⟩ : ∃ o2, h2.get a = some o2 := by
      cases q2 : h2.get a with
      | none => rw [q2] at f2; cases f2
      | some o2 => exact ⟨o2, rfl⟩
    rw [ho2] at f2
    have x2 := x.open h1 rfl
    refine ⟨er, hd, ?_, x2, open0 hd rfl⟩
    have S3 := S2.open (o := .dit kvs) (u := .dT ws) (ob := ob) ho2 f2 rfl (by rw [er]; exact hd) rfl (by rw [er]; exact ⟨ws, upd_same, RepK.ext x2 q⟩)
    rw [er] at S3
    exact S3
  | _ => cases e
end

structure EnvR (K : PySem.W.Frag) (r : Rho) (n : Nat) (H : Hp) (σ : L2.St) (env : Env) : Prop where
  len : σ.length = env.length
  at_ : ∀ (i : Nat) (d : D), env[i]? = some (some d) → ∃ v : V, σ[i]? = some (some v) ∧ RepV K r n H v d
section
variable {K : PySem.W.Frag} {r r' : Rho} {n n' : Nat} {H H' : Hp} {σ : L2.St} {env : Env}
theorem EnvR.ext0 (e : Ext0 K r n H r' n' H') (q : EnvR K r n H σ env) : EnvR K r' n' H' σ env := ⟨q.len, fun i d h => let ⟨v, a, b⟩ := q.at_ i d h; ⟨v, a, b.ext0 e⟩⟩
theorem EnvR.ext (e : Ext K r n H r' n' H') (q : EnvR K r n H σ env) : EnvR K r' n' H' σ env := ⟨q.len, fun i d h => let ⟨v, a, b⟩ := q.at_ i d h; ⟨v, a, b.ext e⟩⟩
theorem EnvR.set (q : EnvR K r n H σ env) {v : V} {d : D} (i : Nat) (a : RepV K r n H v d) : EnvR K r n H (σ.set i (some v)) (env.set i (some d)) := by
  refine ⟨by rw [List.length_set, List.length_set]; exact q.len, fun j e h => ?_⟩
  by_cases hj : i = j
  · subst hj
    rw [List.getElem?_set_self'] at h ⊢
    cases hs : env[i]? with
    | none => rw [hs] at h; cases h
    | some x =>
      have hl : i < env.length := (List.getElem?_eq_some_iff.mp hs).1
      rw [hs] at h
      cases h
      have hl2 : i < σ.length := by rw [q.len]; exact hl
      rw [List.getElem?_eq_getElem hl2]
      exact ⟨v, rfl, a⟩
  · rw [List.getElem?_set_ne hj] at h ⊢
    exact q.at_ j e h
theorem EnvR.unset (q : EnvR K r n H σ env) (i : Nat) : EnvR K r n H (σ.set i none) (env.set i none) := by
  refine ⟨by rw [List.length_set, List.length_set]; exact q.len, fun j e h => ?_⟩
  by_cases hj : i = j
  · subst hj
    rw [List.getElem?_set_self'] at h
    cases hs : env[i]? with
    | none => rw [hs] at h; cases h
    | some x => rw [hs] at h; cases h
  · rw [List.getElem?_set_ne hj] at h ⊢
    exact q.at_ j e h
theorem EnvR.over (q : EnvR K r n H σ env) (i : Nat) (v : V) : EnvR K r n H (σ.set i (some v)) (env.set i none) := by
  refine ⟨by rw [List.length_set, List.length_set]; exact q.len, fun j e h => ?_⟩
  by_cases hj : i = j
  · subst hj
    rw [List.getElem?_set_self'] at h
    cases hs : env[i]? with
    | none => rw [hs] at h; cases h
    | some x => rw [hs] at h; cases h
  · rw [List.getElem?_set_ne hj] at h ⊢
    exact q.at_ j e h
theorem EnvR.wipe (q : EnvR K r n H σ env) : ∀ vs : List Nat, EnvR K r n H (wipe σ vs) (wipeE env vs)
  | [] => q
  | v :: vs => EnvR.unset (EnvR.wipe q vs) v
theorem EnvR.start {vs : List V} {ds : List D} (q : RepL K r n H vs ds) {N : List Str} {ns : Nat} (hN : N.length = ns) : EnvR K r n H (L2.start N vs) (start ns ds) := by
  have hl := q.len
  refine ⟨?_, fun i d h => ?_⟩
  · unfold L2.start Z.start
    simp only [List.length_append, List.length_map, List.length_replicate, hl, hN]
  · unfold Z.start at h
    unfold L2.start
    by_cases hi : i < ds.length
    · rw [List.getElem?_append_left (by simpa using hi), List.getElem?_map] at h
      obtain ⟨x, hx, e⟩ := Option.map_eq_some_iff.mp h
      cases e
      obtain ⟨v, hv, rv⟩ := q.get hx
      refine ⟨v, ?_, rv⟩
      rw [List.getElem?_append_left (by simpa [hl] using hi), List.getElem?_map, hv]
      rfl
    · rw [List.getElem?_append_right (by simpa using hi), List.getElem?_replicate] at h
      split at h <;> cases h
end
end Z

set_option maxRecDepth 100000
set_option maxHeartbeats 1000000
namespace Z
open PySem L2

def PG {α β : Type} (K : PySem.W.Frag) (W : XK) (r : Rho) (h : Hm) (H : Hp) (R : Rho → Nat → Hp → β → α → Prop) (Q : β → Hp → Prop) : Except String α → Hm → Prop
  | .ok d, h' => ∀ v r' H', Sim K r' h' H' → Ext K r h.next H r' h'.next H' → R r' h'.next H' v d → Q v H'
  | .error k, h' => ∀ r' H', Sim K r' h' H' → Ext K r h.next H r' h'.next H' → W (.ref (ca K k)) none H'
section
variable {α β : Type} {K : PySem.W.Frag} {W : XK} {r r1 : Rho} {h h1 h' : Hm} {H H1 : Hp} {R : Rho → Nat → Hp → β → α → Prop} {Q : β → Hp → Prop} {res : Except String α}
theorem PG.later (p : PG K W r h H R Q res h') (e : Ext K r h.next H r1 h1.next H1) : PG K W r1 h1 H1 R Q res h' := by
  cases res with
  | ok d => exact fun v r' H' S x q => p v r' H' S (e.trans x) q
  | error k => exact fun r' H' S x => p r' H' S (e.trans x)
end

theorem lim_le {n : Nat} (h : n ≤ lim) : n ≤ sizeLine := Nat.le_trans h (by rw [sizeLine_eq]; decide)
theorem lim_lt {n : Nat} (h : n < lim) : n < sizeLine := Nat.lt_of_lt_of_le h (by rw [sizeLine_eq]; decide)

theorem rep_size (a : Array Nat) : ∀ (n : Nat) (acc : Array Nat), (List.foldl (fun a b => a ++ b) acc (List.replicate n a)).size = acc.size + n * a.size
  | 0, acc => by simp
  | n + 1, acc => by
    rw [List.replicate_succ, List.foldl_cons, rep_size a n, Array.size_append, Nat.succ_mul]
    omega
abbrev rMulS : R2 := fun x y H Q => ∃ s k, x = V.str s ∧ y = V.int k ∧ s.length = 1 ∧ 2 ≤ k ∧ k ≤ 10000 ∧ Q (V.str (repS s k)) H
theorem op_mul_str {X : Cx} : OpR X (binaryOp .Mult) rMulS := by
  intro pins s σ H x y v u Q I rx ry h
  obtain ⟨z, k, rfl, rfl, h1, h2, h3, q⟩ := h
  obtain ⟨t, rfl⟩ := rx
  obtain ⟨t', rfl⟩ := ry
  refine P.mul_str ?_ ?_ ?_ ?_
  · simp; omega
  · intro _ _ hc
    rw [h1] at hc
    have : (2 ^ 63 - 1) / k ≥ 1 := Int.le_ediv_of_mul_le (by omega) (by omega)
    omega
  · intro _ _
    unfold Builtin.Str.tooLong
    rw [h1, sizeLine_eq]
    simp
    omega
  · rw [if_neg (by omega), if_neg (by rw [h1]; simp; omega), Made.post]
    refine ⟨?_, Exists.intro (V.str _) (Exists.intro H ⟨Inv.tok I _, ⟨Exists.intro _ rfl, q⟩⟩)⟩
    show (List.foldl (fun a b => a ++ b) #[] (List.replicate k.toNat z.cps)).size ≤ sizeLine
    have h4 : z.cps.size = 1 := h1
    rw [rep_size, h4, sizeLine_eq]
    simp
    omega
abbrev rCatS : R2 := fun x y H Q => ∃ i j, x = .str i ∧ y = .str j ∧ i.length + j.length ≤ sizeLine ∧ Q (.str (i ++ j)) H
def rB (K : PySem.W.Frag) : Bop → R2
  | .add => fun x y H Q => rI0 (fun i j => .int (i + j)) x y H Q ∨ (rCatS x y H Q ∨ (rCatT K x y H Q ∨ rCat x y H Q))
  | .sub => rI0 fun i j => .int (i - j)
  | .mul => fun x y H Q => rI CMul (fun i j => .int (i * j)) x y H Q ∨ (rI CMulX (fun i j => .int (i * j)) x y H Q ∨ (rRep x y H Q ∨ rMulS x y H Q))
  | .fdiv => rI CDivW fun i j => .int (i / j)
  | .mod => rI (fun _ j => 0 < j) fun i j => .int (i % j)
  | .pow => rI CPow fun i j => .int (i ^ j.toNat)
  | .shl => rI CPow fun i j => .int (i * 2 ^ j.toNat)
  | .shr => rI (fun _ j => 0 ≤ j) fun i j => .int (i / 2 ^ j.toNat)
  | .band => rI0 fun i j => .int (Builtin.bitAnd i j)
  | .bor => rI0 fun i j => .int (Builtin.bitOr i j)
  | .bxor => rI0 fun i j => .int (Builtin.bitXor i j)
def oB : Bop → Operator
  | .add => .Add | .sub => .Sub | .mul => .Mult | .fdiv => .FloorDiv | .mod => .Mod | .pow => .Pow | .shl => .LShift | .shr => .RShift
  | .band => .BitAnd | .bor => .BitOr | .bxor => .BitXor
section
variable {X : Cx}
theorem z_add : OpR X (binaryOp .Add) (rB X.K .add) := op_add.or (op_add_str.or (op_catT.or op_cat))
theorem z_sub : OpR X (binaryOp .Sub) (rB X.K .sub) := op_sub
theorem z_mul : OpR X (binaryOp .Mult) (rB X.K .mul) := op_mul.or (op_mulX.or (op_rep.or op_mul_str))
theorem z_fdiv : OpR X (binaryOp .FloorDiv) (rB X.K .fdiv) := op_fdivW
theorem z_mod : OpR X (binaryOp .Mod) (rB X.K .mod) := op_mod
theorem z_pow : OpR X (binaryOp .Pow) (rB X.K .pow) := op_pow
theorem z_shl : OpR X (binaryOp .LShift) (rB X.K .shl) := op_shl
theorem z_shr : OpR X (binaryOp .RShift) (rB X.K .shr) := op_shr
theorem z_band : OpR X (binaryOp .BitAnd) (rB X.K .band) := op_and
theorem z_bor : OpR X (binaryOp .BitOr) (rB X.K .bor) := op_or
theorem z_bxor : OpR X (binaryOp .BitXor) (rB X.K .bxor) := op_xor
end
theorem natAbs_big {i : Int} (h : big i) : i.natAbs < 2 ^ 250 := by
  obtain ⟨h1, h2⟩ := h
  omega
section
variable {K : PySem.W.Frag} {W : XK} {r : Rho} {h h' : Hm} {H : Hp} {Q : VK} {res : Except String D} {v w : V} {x y : D}
theorem s_newlist (S : Sim K r h H) {vs : List V} {xs : List D} (q : RepL K r h.next H vs xs) (p : PG K W r h H (RepV K) Q (.ok (.ref h.next)) (h.new (.lst xs))) : ∀ a, H a = none → Q (.ref a) (upd H a (.lst vs)) := by
  intro a ha
  have x1 := (Free.extN (K := K) (r := r) (n := h.next) (u := .lst vs) (.inl ha))
  have S1 : Sim K (rn r h.next a) (h.new (.lst xs)) (upd H a (.lst vs)) := S.new ha rfl ⟨vs, upd_same, q.ext x1⟩
  have e : V.ref a = .ref (rn r h.next a h.next) := by rw [rn_at]
  exact p _ _ _ S1 x1 (by rw [e]; exact .ref (Nat.lt_succ_self _))
theorem s_newtup (S : Sim K r h H) {vs : List V} {xs : List D} (q : RepL K r h.next H vs xs) (p : PG K W r h H (RepV K) Q (.ok (.tup xs)) h) : ∀ a, H a = none → Q (.ref a) (upd H a (.tup vs)) := by
  intro a ha
  have x1 := (Free.ext (K := K) (r := r) (n := h.next) (u := .tup vs) (.inl ha))
  exact p _ _ _ (S.grow ha) x1 (.tup (.inl (.inl upd_same)) (q.ext x1))
theorem repL_ne {n : Nat} {vs : List V} {x : D} {xs : List D} (q : RepL K r n H vs (x :: xs)) : vs ≠ [] := by
  cases q with
  | cons a b => exact List.cons_ne_nil _ _
theorem s_plain (S : Sim K r h H) {u : V} {d : D} (q : RepV K r h.next H u d) (p : PG K W r h H (RepV K) Q (.ok d) h) : Q u H := p u r H S Ext.refl q
theorem s_bin {o : Bop} (S : Sim K r h H) (rv : RepV K r h.next H v x) (rw_ : RepV K r h.next H w y) (e : binD o x y h = some (res, h')) (p : PG K W r h H (RepV K) Q res h') : rB K o v w H Q := by
  cases o with
  | add =>
    cases rv with
    | int i =>
      cases rw_ with
      | int j => cases e; exact .inl ⟨_, _, rfl, rfl, s_plain S (.int _) p⟩
      | _ => cases e
    | str s =>
      cases rw_ with
      | str t =>
        simp only [binD] at e
        split at e
        · rename_i hl
          cases e
          exact .inr (.inl ⟨_, _, rfl, rfl, lim_le hl, s_plain S (.str _) p⟩)
        · cases e
      | _ => cases e
    | @tup a vs ds hT q =>
      cases rw_ with
      | @tup b us es hU q2 =>
        cases ds with
        | nil => cases e
        | cons d ds =>
          simp only [binD] at e
          split at e
          · rename_i hl
            cases e
            refine .inr (.inr (.inl ⟨a, b, vs, us, rfl, rfl, hT, hU, repL_ne q, ?_, fun eu => ?_, fun _ => ?_⟩))
            · rw [q.len, q2.len, List.length_cons]
              exact lim_le (by omega)
            · subst eu
              cases q2
              simp only [List.append_nil] at p
              exact s_plain S (.tup hT q) p
            · exact s_newtup S (q.app q2) p
          · cases e
      | _ => cases ds <;> cases e
    | @ref a la =>
      cases rw_ with
      | @ref b lb =>
        simp only [binD] at e
        split at e
        · rename_i xs ys ha hb
          split at e
          · rename_i hl
            cases e
            obtain ⟨vs, e1, q1⟩ := (S.obj a _ ha).2
            obtain ⟨us, e2, q2⟩ := (S.obj b _ hb).2
            refine .inr (.inr (.inr ⟨_, _, vs, us, rfl, rfl, e1, e2, ?_, s_newlist S (q1.app q2) p⟩))
            rw [q1.len, q2.len]
            exact lim_le hl
          · cases e
        · cases e
      | _ => cases e
    | _ => cases e
  | sub =>
    cases rv with
    | int i =>
      cases rw_ with
      | int j => cases e; exact ⟨_, _, rfl, rfl, s_plain S (.int _) p⟩
      | _ => cases e
    | _ => cases e
  | mul =>
    cases rv with
    | int i =>
      cases rw_ with
      | int j =>
        simp only [binD] at e
        split at e
        · rename_i hl
          cases e
          rcases hl with hl | hl | hl
          · exact .inl ⟨_, _, rfl, rfl, .inl hl, s_plain S (.int _) p⟩
          · exact .inl ⟨_, _, rfl, rfl, .inr hl, s_plain S (.int _) p⟩
          · exact .inr (.inl ⟨_, _, rfl, rfl, mulx_ok (natAbs_big hl.1) (natAbs_big hl.2) (by decide), s_plain S (.int _) p⟩)
        · cases e
      | _ => cases e
    | str s =>
      cases rw_ with
      | int k =>
        simp only [binD] at e
        split at e
        · rename_i hl
          cases e
          exact .inr (.inr (.inr ⟨_, _, rfl, rfl, hl.1, hl.2.1, hl.2.2, s_plain S (.str _) p⟩))
        · cases e
      | _ => cases e
    | @ref a la =>
      cases rw_ with
      | int k =>
        simp only [binD] at e
        split at e
        · rename_i xs ha
          split at e
          · rename_i hl
            cases e
            obtain ⟨vs, e1, q1⟩ := (S.obj a _ ha).2
            obtain ⟨⟨h1, h2⟩, h3⟩ := hl
            refine .inr (.inr (.inl ⟨_, k, vs, rfl, rfl, e1, by omega, by omega, ?_, s_newlist S (q1.rep _) p⟩))
            rw [q1.len]
            exact lim_le h3
          · cases e
        · cases e
      | _ => cases e
    | _ => cases e
  | fdiv =>
    cases rv with
    | int i =>
      cases rw_ with
      | int j =>
        simp only [binD] at e
        split at e
        · rename_i hl
          cases e
          exact ⟨_, _, rfl, rfl, wide_div hl.1 (b := 250) (by omega) (by decide) (by decide), s_plain S (.int _) p⟩
        · cases e
      | _ => cases e
    | _ => cases e
  | mod =>
    cases rv with
    | int i =>
      cases rw_ with
      | int j =>
        simp only [binD] at e
        split at e
        · rename_i hl
          cases e
          exact ⟨_, _, rfl, rfl, hl, s_plain S (.int _) p⟩
        · cases e
      | _ => cases e
    | _ => cases e
  | pow =>
    cases rv with
    | int i =>
      cases rw_ with
      | int j =>
        simp only [binD] at e
        split at e
        · rename_i hl
          cases e
          obtain ⟨h1, h2, h3, h4⟩ := hl
          exact ⟨_, _, rfl, rfl, ⟨h1, h2, by omega⟩, s_plain S (.int _) p⟩
        · cases e
      | _ => cases e
    | _ => cases e
  | shl =>
    cases rv with
    | int i =>
      cases rw_ with
      | int j =>
        simp only [binD] at e
        split at e
        · rename_i hl
          cases e
          obtain ⟨h1, h2, h3, h4⟩ := hl
          exact ⟨_, _, rfl, rfl, ⟨h1, h2, by omega⟩, s_plain S (.int _) p⟩
        · cases e
      | _ => cases e
    | _ => cases e
  | shr =>
    cases rv with
    | int i =>
      cases rw_ with
      | int j =>
        simp only [binD] at e
        split at e
        · rename_i hl
          cases e
          exact ⟨_, _, rfl, rfl, hl, s_plain S (.int _) p⟩
        · cases e
      | _ => cases e
    | _ => cases e
  | band =>
    cases rv with
    | int i =>
      cases rw_ with
      | int j => cases e; exact ⟨_, _, rfl, rfl, s_plain S (.int _) p⟩
      | _ => cases e
    | _ => cases e
  | bor =>
    cases rv with
    | int i =>
      cases rw_ with
      | int j => cases e; exact ⟨_, _, rfl, rfl, s_plain S (.int _) p⟩
      | _ => cases e
    | _ => cases e
  | bxor =>
    cases rv with
    | int i =>
      cases rw_ with
      | int j => cases e; exact ⟨_, _, rfl, rfl, s_plain S (.int _) p⟩
      | _ => cases e
    | _ => cases e
end
end Z

set_option maxRecDepth 100000
set_option maxHeartbeats 2000000
namespace PySem.SeqAt
open AutoSeq1 (wpAny_loadPart')
open MeetsSeq MeetsSeq2 MeetsSeq3
section
variable {prog : Program} {w : World}
end
end PySem.SeqAt

namespace Z
open PySem L2
def lkV (ws : List (Key × V)) (k : Key) : Option V := (ws.find? fun p => decide (p.1 = k)).map (·.2)
inductive Tw (H : Hp) : Nat → V → V → Prop
  | int (n : Nat) (i : Int) : Tw H n (.int i) (.int i)
  | non (n : Nat) : Tw H n .non .non
  | lst {n : Nat} {a b : Addr} {xs ys : List V} (ha : H a = some (.lst xs)) (hb : H b = some (.lst ys)) (hl : xs.length = ys.length) (hx : ∀ (j : Nat) (x y : V), xs[j]? = some x → ys[j]? = some y → Tw H n x y) : Tw H (n + 1) (.ref a) (.ref b)
  | dic {n : Nat} {a b : Addr} {ks ls : List (Key × V)} (f : Key → V) (ha : H a = some (.dK ks)) (hb : H b = some (.dK ls)) (hl : ks.length = ls.length) (hk : ∀ p ∈ ks, lkV ls p.1 = some (f p.1)) (ht : ∀ p ∈ ks, Tw H n p.2 (f p.1)) : Tw H (n + 1) (.ref a) (.ref b)
theorem all_true (n : Nat) : ((List.range n).all fun _ => true) = true := List.all_eq_true.mpr fun _ _ => rfl
theorem lkV_at {ws : List (Key × V)} {vs : List (Key × Value)} (r : KV ws vs) {k : Key} {x : V} (h : lkV ws k = some x) : ∃ u, valueAt vs k = some u ∧ RelV x u := by
  induction r with
  | nil => cases h
  | @cons p q l1 l2 a t ih =>
    unfold lkV at h
    unfold valueAt
    rw [List.find?_cons] at h ⊢
    by_cases e : p.1 = k
    · have e2 : q.1 = k := a.1 ▸ e
      rw [decide_eq_true e] at h
      rw [decide_eq_true e2]
      cases h
      exact ⟨_, rfl, a.2⟩
    · have e2 : ¬ q.1 = k := fun z => e (a.1.trans z)
      rw [decide_eq_false e] at h
      rw [decide_eq_false e2]
      exact ih h
theorem kv_mem {ws : List (Key × V)} {vs : List (Key × Value)} (r : KV ws vs) {k : Key} {u : Value} (h : (k, u) ∈ vs) : ∃ x, (k, x) ∈ ws ∧ RelV x u := by
  induction r with
  | nil => cases h
  | @cons p q l1 l2 a t ih =>
    rcases List.mem_cons.mp h with e | h
    · subst e
      obtain ⟨p1, p2⟩ := p
      cases a.1
      exact ⟨p2, List.mem_cons_self .., a.2⟩
    · obtain ⟨x, h1, h2⟩ := ih h
      exact ⟨x, List.mem_cons_of_mem _ h1, h2⟩
section
variable {P : Program} {w : World} {H : Hp} {s : Shared}
theorem lst_is {a : Addr} {xs : List V} (ok : HOk P w H s.heap) (e : H a = some (.lst xs)) : ∃ its : List Value, Vals xs its ∧ s.heap.IsList a its.toArray := by
  obtain ⟨_, its, n, r, h⟩ := ok a _ e
  exact ⟨its, r, _, h, rfl, n, rfl⟩
theorem Tw.tree (ok : HOk P w H s.heap) {n : Nat} {x y : V} (t : Tw H n x y) : ∀ v u, RelV x v → RelV y u → PySem.W.EqTree P w s n v u true := by
  induction t with
  | int n i =>
    rintro v u ⟨t1, rfl⟩ ⟨t2, rfl⟩
    exact .leaf fun A _ => by
      have := SeqAt.EqAt.int_int (A := A) (s := s) i t1 i t2
      rw [beq_self_eq_true] at this
      exact this
  | non n =>
    rintro v u rfl rfl
    exact .same
  | @lst n a b xs ys ha hb hl hx ih =>
    rintro v u rfl rfl
    by_cases hab : a = b
    · subst hab; exact .same
    obtain ⟨is1, r1, h1⟩ := lst_is ok ha
    obtain ⟨is2, r2, h2⟩ := lst_is ok hb
    have l1 := r1.length
    have l2 := r2.length
    have tr := PySem.W.EqTree.lists (prog := P) (w := w) (n := n) (e := fun _ => true) hab h1 h2 (by rw [List.size_toArray, List.size_toArray]; omega) (fun j j1 j2 => ?_)
    · rw [all_true] at tr; exact tr
    · rw [List.size_toArray] at j1 j2
      have k1 : j < xs.length := by omega
      have k2 : j < ys.length := by omega
      obtain ⟨u1, e1, q1⟩ := r1.get (List.getElem?_eq_getElem k1)
      obtain ⟨u2, e2, q2⟩ := r2.get (List.getElem?_eq_getElem k2)
      have f1 : is1.toArray[j] = u1 := by
        rw [List.getElem?_eq_getElem j1] at e1
        simpa using e1
      have f2 : is2.toArray[j] = u2 := by
        rw [List.getElem?_eq_getElem j2] at e2
        simpa using e2
      rw [f1, f2]
      exact ih j _ _ (List.getElem?_eq_getElem k1) (List.getElem?_eq_getElem k2) u1 u2 q1 q2
  | @dic n a b ks ls f ha hb hl hk ht ih =>
    rintro v u rfl rfl
    by_cases hab : a = b
    · subst hab; exact .same
    obtain ⟨_, sa, vs, r1, d1⟩ := ok a _ ha
    obtain ⟨_, sb, us, r2, d2⟩ := ok b _ hb
    have l1 : ks.length = vs.length := Paired.length r1
    have l2 : ls.length = us.length := Paired.length r2
    have tr := PySem.W.EqTree.dicts (prog := P) (w := w) (n := n) (e := fun _ => true) hab sa sb d1 d2 (fun k v y hm hv => ?_)
    · have e : (vs.length == us.length && vs.all fun p => (valueAt us p.1).isSome && true) = true := by
        rw [show vs.length = us.length by omega, beq_self_eq_true, Bool.true_and, List.all_eq_true]
        rintro ⟨k, v⟩ hm
        obtain ⟨x, hx, _⟩ := kv_mem r1 hm
        obtain ⟨u, hu, _⟩ := lkV_at r2 (hk _ hx)
        have hu : valueAt us k = some u := hu
        show ((valueAt us k).isSome && true) = true
        rw [hu]
        rfl
      rw [e] at tr
      exact tr
    · obtain ⟨x, hx, q1⟩ := kv_mem r1 hm
      obtain ⟨u, hu, q2⟩ := lkV_at r2 (hk _ hx)
      have hu : valueAt us k = some u := hu
      rw [hv] at hu
      cases hu
      exact ih _ hx v y q1 q2
end
def rTwE : R2 := fun x y H Q => ∃ n a b xs ys, n ≤ 30 ∧ x = .ref a ∧ y = .ref b ∧ H a = some (.lst xs) ∧ H b = some (.lst ys) ∧ xs.length = ys.length ∧ (∀ (j : Nat) (x y : V), xs[j]? = some x → ys[j]? = some y → Tw H n x y) ∧ Q (.bl true) H
def rTwN : R2 := fun x y H Q => ∃ n a b xs ys, n ≤ 30 ∧ x = .ref a ∧ y = .ref b ∧ H a = some (.lst xs) ∧ H b = some (.lst ys) ∧ xs.length = ys.length ∧ (∀ (j : Nat) (x y : V), xs[j]? = some x → ys[j]? = some y → Tw H n x y) ∧ Q (.bl false) H
section
variable {X : Cx}
end
end Z

set_option maxRecDepth 100000
set_option maxHeartbeats 1000000
namespace Z
open PySem L2

abbrev rSgn (b : Bool) : R2 := fun x y H Q => ∃ (c : Nat) (z : Str), x = .str ⟨#[c]⟩ ∧ y = .str z ∧ Q (.bl (if b = true then !decide (c ∈ z.cps.toList) else decide (c ∈ z.cps.toList))) H
abbrev rSub (b : Bool) : R2 := fun x y H Q => ∃ i j, x = .str i ∧ y = .str j ∧ Q (.bl (if b = true then !(!(Builtin.Str.occurrences j i 0 j.length 1).isEmpty) else !(Builtin.Str.occurrences j i 0 j.length 1).isEmpty)) H
abbrev rKey (b : Bool) : R2 := fun x y H Q => ∃ a o, y = .ref a ∧ DGet H a x o ∧ Q (.bl (if b = true then !o.isSome else o.isSome)) H
def rCm (K : PySem.W.Frag) : Cop → R2
  | .eq => fun x y H Q => rEq x y H Q ∨ rEqD K x y H Q
  | .ne => fun x y H Q => rNe x y H Q ∨ rNeD K x y H Q
  | .eqT => rTwE
  | .neT => rTwN
  | .lt => rI0 fun i j => .bl (decide (i < j))
  | .le => rI0 fun i j => .bl (decide (i ≤ j))
  | .gt => rI0 fun i j => .bl (decide (j < i))
  | .ge => rI0 fun i j => .bl (decide (j ≤ i))
  | .isN => fun x y H Q => (y = .non ∧ Q (.bl (decide (x = .non))) H) ∨ (∃ a b, x = .bl a ∧ y = .bl b ∧ Q (.bl (decide (a = b))) H)
  | .notN => fun x y H Q => (y = .non ∧ Q (.bl (!decide (x = .non))) H) ∨ (∃ a b, x = .bl a ∧ y = .bl b ∧ Q (.bl (!decide (a = b))) H)
  | .inn => fun x y H Q => rSgn false x y H Q ∨ (rSub false x y H Q ∨ (rIn K false x y H Q ∨ rKey false x y H Q))
  | .nin => fun x y H Q => rSgn true x y H Q ∨ (rSub true x y H Q ∨ (rIn K true x y H Q ∨ rKey true x y H Q))
section
variable {X : Cx}
theorem op_key (hu : X.A.units + 64 < cLine) : OpR X (compareOp .In) (rKey false) := by
  intro pins s σ H x y v u Q I rx ry h
  obtain ⟨a, o, e, g, q⟩ := h
  subst e
  obtain rfl : u = Value.ref a := ry
  exact d_in (by omega) I g rx fun s3 I3 => ⟨.bl o.isSome, H, I3, rfl, q⟩
theorem z_eq (hu : X.A.units + 64 < cLine) : OpR X (compareOp .Eq) (rCm X.K .eq) := op_eq.or (op_eqD hu)
theorem z_ne (hu : X.A.units + 64 < cLine) : OpR X (compareOp .NotEq) (rCm X.K .ne) := op_ne.or (op_neD hu)
theorem z_lt (hu : X.A.units + 64 < cLine) : OpR X (compareOp .Lt) (rCm X.K .lt) := op_lt
theorem z_gt (hu : X.A.units + 64 < cLine) : OpR X (compareOp .Gt) (rCm X.K .gt) := op_gt
theorem z_ge (hu : X.A.units + 64 < cLine) : OpR X (compareOp .GtE) (rCm X.K .ge) := op_ge
theorem z_isN (hu : X.A.units + 64 < cLine) : OpR X (compareOp .Is) (rCm X.K .isN) := op_isN.or op_is_bl
theorem z_in (hu : X.A.units + 64 < cLine) : OpR X (compareOp .In) (rCm X.K .inn) := by
  refine OpR.or (r := rSgn false) ?_ (OpR.or (r := rSub false) ?_ (op_in_seq.or (op_key hu)))
  · exact op_in_sign
  · exact op_in_str
end

section
variable {K : PySem.W.Frag} {W : XK} {r : Rho} {h h' : Hm} {H : Hp} {Q : VK} {res : Except String D} {v w : V} {x y : D}
theorem mapO_dp {f : D → Option PyData} (hf : ∀ d v pd, RepV K r h.next H v d → f d = some pd → Dp K H v pd) : ∀ {ds : List D} {vs : List V} {ps : List PyData}, RepL K r h.next H vs ds → mapO f ds = some ps → DpAll K H vs ps
  | _, _, _, .nil, e => by cases e; exact .nil
  | d :: ds, _, _, .cons a b, e => by
    unfold mapO at e
    cases e1 : f d with
    | none => rw [e1] at e; cases e
    | some y =>
      cases e2 : mapO f ds with
      | none => rw [e1, e2] at e; cases e
      | some ys =>
        rw [e1, e2] at e
        cases e
        exact .cons (hf _ _ _ a e1) (mapO_dp hf b e2)
theorem dat_dp (S : Sim K r h H) : ∀ (n : Nat) (d : D) (v : V) (pd : PyData), RepV K r h.next H v d → dat h n d = some pd → Dp K H v pd
  | 0, _, _, _, .non, e => by cases e; exact .non
  | 0, _, _, _, .bl b, e => by cases e; exact .bl b
  | 0, _, _, _, .int b, e => by cases e; exact .int b
  | 0, _, _, _, .str b, e => by cases e; exact .str b
  | 0, _, _, _, .tup _ _, e => by cases e
  | 0, _, _, _, .ref _, e => by cases e
  | 0, _, _, _, .exc _ _, e => by cases e
  | 0, _, _, _, .xob _ _ _ _, e => by cases e
  | n + 1, _, _, _, .non, e => by cases e; exact .non
  | n + 1, _, _, _, .bl b, e => by cases e; exact .bl b
  | n + 1, _, _, _, .int b, e => by cases e; exact .int b
  | n + 1, _, _, _, .str b, e => by cases e; exact .str b
  | n + 1, _, _, _, .tup hT q, e => by
    unfold dat at e
    obtain ⟨ps, e1, e2⟩ := Option.map_eq_some_iff.mp e
    subst e2
    exact .tup hT (mapO_dp (dat_dp S n) q e1)
  | n + 1, _, _, _, .ref (a := a) la, e => by
    unfold dat at e
    split at e
    · rename_i xs ha
      obtain ⟨ps, e1, e2⟩ := Option.map_eq_some_iff.mp e
      subst e2
      obtain ⟨vs, h1, q⟩ := (S.obj a _ ha).2
      exact .lst (.inl (.inl h1)) (mapO_dp (dat_dp S n) q e1)
    · rename_i xs ha
      obtain ⟨ps, e1, e2⟩ := Option.map_eq_some_iff.mp e
      subst e2
      obtain ⟨vs, h1, q⟩ := (S.obj a _ ha).2
      exact .lst h1.l (mapO_dp (dat_dp S n) q e1)
    · cases e
  | n + 1, _, _, _, .exc _ _, e => by cases e
  | n + 1, _, _, _, .xob _ _ _ _, e => by cases e
theorem s_eqD {b : Bool} (S : Sim K r h H) (rv : RepV K r h.next H v x) (rw_ : RepV K r h.next H w y) (e : eqD x y h = some b) :
    (scal v w = true ∧ decide (v = w) = b) ∨ ∃ d c, Dp K H v d ∧ Dp K H w c ∧ SeqAt.shaped d = true ∧ SeqAt.shaped c = true ∧ PyData.eqv d c = b := by
  have deepP : ∀ {x y : D}, RepV K r h.next H v x → RepV K r h.next H w y → (match dat h deep x, dat h deep y with
    | some d, some e => if (SeqAt.shaped d && SeqAt.shaped e) = true then some (PyData.eqv d e) else none
    | _, _ => none) = some b → ∃ d c, Dp K H v d ∧ Dp K H w c ∧ SeqAt.shaped d = true ∧ SeqAt.shaped c = true ∧ PyData.eqv d c = b := by
    intro x y rv rw_ e
    split at e
    · rename_i d c e1 e2
      split at e
      · rename_i hs
        cases e
        obtain ⟨s1, s2⟩ := Bool.and_eq_true_iff.mp hs
        exact ⟨d, c, dat_dp S _ _ _ _ rv e1, dat_dp S _ _ _ _ rw_ e2, s1, s2, rfl⟩
      · cases e
    · cases e
  cases rv with
  | int i =>
    cases rw_ with
    | int j =>
      cases e
      refine .inl ⟨rfl, ?_⟩
      by_cases hij : i = j
      · subst hij; simp
      · simp [hij]
    | str t => cases e; exact .inl ⟨rfl, by simp⟩
    | non => exact .inr (deepP (.int i) .non e)
    | bl c => exact .inr (deepP (.int i) (.bl c) e)
    | tup a c => exact .inr (deepP (.int i) (.tup a c) e)
    | ref a => exact .inr (deepP (.int i) (.ref a) e)
    | exc k a => exact .inr (deepP (.int i) (.exc k a) e)
    | xob k1 h1 z1 f1 => exact .inr (deepP (.int i) (.xob k1 h1 z1 f1) e)
  | str s =>
    cases rw_ with
    | str t =>
      cases e
      refine .inl ⟨rfl, ?_⟩
      by_cases hij : s = t
      · subst hij; simp
      · simp [hij]
    | int t => cases e; exact .inl ⟨rfl, by simp⟩
    | non => exact .inr (deepP (.str s) .non e)
    | bl c => exact .inr (deepP (.str s) (.bl c) e)
    | tup a c => exact .inr (deepP (.str s) (.tup a c) e)
    | ref a => exact .inr (deepP (.str s) (.ref a) e)
    | exc k a => exact .inr (deepP (.str s) (.exc k a) e)
    | xob k1 h1 z1 f1 => exact .inr (deepP (.str s) (.xob k1 h1 z1 f1) e)
  | bl s =>
    cases rw_ with
    | bl t =>
      cases e
      refine .inl ⟨rfl, ?_⟩
      by_cases hij : s = t
      · subst hij; simp
      · simp [hij]
    | int c => exact .inr (deepP (.bl s) (.int c) e)
    | non => exact .inr (deepP (.bl s) .non e)
    | str c => exact .inr (deepP (.bl s) (.str c) e)
    | tup a c => exact .inr (deepP (.bl s) (.tup a c) e)
    | ref a => exact .inr (deepP (.bl s) (.ref a) e)
    | exc k a => exact .inr (deepP (.bl s) (.exc k a) e)
    | xob k1 h1 z1 f1 => exact .inr (deepP (.bl s) (.xob k1 h1 z1 f1) e)
  | non =>
    cases rw_ with
    | non => cases e; exact .inl ⟨rfl, by simp⟩
    | int c => exact .inr (deepP .non (.int c) e)
    | bl c => exact .inr (deepP .non (.bl c) e)
    | str c => exact .inr (deepP .non (.str c) e)
    | tup a c => exact .inr (deepP .non (.tup a c) e)
    | ref a => exact .inr (deepP .non (.ref a) e)
    | exc k a => exact .inr (deepP .non (.exc k a) e)
    | xob k1 h1 z1 f1 => exact .inr (deepP .non (.xob k1 h1 z1 f1) e)
  | tup ta tc =>
    cases rw_ with
    | non => exact .inr (deepP (.tup ta tc) .non e)
    | int c => exact .inr (deepP (.tup ta tc) (.int c) e)
    | bl c => exact .inr (deepP (.tup ta tc) (.bl c) e)
    | str c => exact .inr (deepP (.tup ta tc) (.str c) e)
    | tup x y => exact .inr (deepP (.tup ta tc) (.tup x y) e)
    | ref x => exact .inr (deepP (.tup ta tc) (.ref x) e)
    | exc x y => exact .inr (deepP (.tup ta tc) (.exc x y) e)
    | xob k1 h1 z1 f1 => exact .inr (deepP (.tup ta tc) (.xob k1 h1 z1 f1) e)
  | ref ra =>
    cases rw_ with
    | non => exact .inr (deepP (.ref ra) .non e)
    | int c => exact .inr (deepP (.ref ra) (.int c) e)
    | bl c => exact .inr (deepP (.ref ra) (.bl c) e)
    | str c => exact .inr (deepP (.ref ra) (.str c) e)
    | tup x y => exact .inr (deepP (.ref ra) (.tup x y) e)
    | ref x => exact .inr (deepP (.ref ra) (.ref x) e)
    | exc x y => exact .inr (deepP (.ref ra) (.exc x y) e)
    | xob k1 h1 z1 f1 => exact .inr (deepP (.ref ra) (.xob k1 h1 z1 f1) e)
  | exc k a =>
    cases rw_ with
    | non => exact .inr (deepP (.exc k a) .non e)
    | int c => exact .inr (deepP (.exc k a) (.int c) e)
    | bl c => exact .inr (deepP (.exc k a) (.bl c) e)
    | str c => exact .inr (deepP (.exc k a) (.str c) e)
    | tup x y => exact .inr (deepP (.exc k a) (.tup x y) e)
    | ref x => exact .inr (deepP (.exc k a) (.ref x) e)
    | exc x y => exact .inr (deepP (.exc k a) (.exc x y) e)
    | xob k1 h1 z1 f1 => exact .inr (deepP (.exc k a) (.xob k1 h1 z1 f1) e)
  | xob k h z f =>
    cases rw_ with
    | non => exact .inr (deepP (.xob k h z f) .non e)
    | int c => exact .inr (deepP (.xob k h z f) (.int c) e)
    | bl c => exact .inr (deepP (.xob k h z f) (.bl c) e)
    | str c => exact .inr (deepP (.xob k h z f) (.str c) e)
    | tup x y => exact .inr (deepP (.xob k h z f) (.tup x y) e)
    | ref x => exact .inr (deepP (.xob k h z f) (.ref x) e)
    | exc x y => exact .inr (deepP (.xob k h z f) (.exc x y) e)
    | xob k1 h1 z1 f1 => exact .inr (deepP (.xob k h z f) (.xob k1 h1 z1 f1) e)
theorem flat_of (rv : RepV K r h.next H v x) (f : flatD x = true) : flatV v = true := by
  cases rv <;> first | rfl | cases f
theorem flatL_of : ∀ {ds : List D} {vs : List V}, RepL K r h.next H vs ds → ds.all flatD = true → vs.all flatV = true
  | _, _, .nil, _ => rfl
  | _, _, .cons a b, f => by
    rw [List.all_cons, Bool.and_eq_true_iff] at f
    rw [List.all_cons, flat_of a f.1, flatL_of b f.2]
    rfl
theorem eqF_of (rv : RepV K r h.next H v x) (rw_ : RepV K r h.next H w y) (f : flatD x = true) (g : flatD y = true) : eqV v w = eqF x y := by
  cases rv with
  | tup a b => cases f
  | ref a => cases f
  | _ => cases rw_ <;> first | rfl | cases g
theorem inL_of (rv : RepV K r h.next H v x) (f : flatD x = true) : ∀ {ds : List D} {vs : List V}, RepL K r h.next H vs ds → ds.all flatD = true → inV v vs = ds.any fun y => eqF y x
  | _, _, .nil, _ => rfl
  | _, _, .cons a b, g => by
    rw [List.all_cons, Bool.and_eq_true_iff] at g
    have ih := inL_of rv f b g.2
    unfold inV at ih ⊢
    rw [List.any_cons, List.any_cons, ih, eqF_of a rv g.1 f]
theorem key_of (rv : RepV K r h.next H v x) {k : Key} (e : key? x = some k) : v = kV k := by
  cases rv with
  | int i => cases e; rfl
  | str s => cases e; rfl
  | _ => cases e
theorem keys_of : ∀ {ds : List D} {vs : List V} {ks : List Key}, RepL K r h.next H vs ds → keys? ds = some ks → vs = ks.map kV
  | _, _, _, .nil, e => by cases e; rfl
  | d :: ds, _, _, .cons a b, e => by
    unfold keys? at e
    cases e1 : key? d with
    | none => rw [e1] at e; cases e
    | some y =>
      cases e2 : keys? ds with
      | none => rw [e1, e2] at e; cases e
      | some ys =>
        rw [e1, e2] at e
        cases e
        rw [key_of a e1, keys_of b e2]
        rfl
theorem repKey (k : Key) : RepV K r h.next H (kV k) (keyD k) := by
  cases k with
  | inl i => exact .int i
  | inr s => exact .str s
theorem repKeyL : ∀ ks : List Key, RepL K r h.next H (ks.map kV) (ks.map keyD)
  | [] => .nil
  | k :: ks => .cons (repKey k) (repKeyL ks)
theorem repKeys {ws : List (Key × V)} {kvs : List (Key × D)} (q : RepK K r h.next H ws kvs) : RepL K r h.next H (ws.map fun kv => kV kv.1) (kvs.map fun kv => keyD kv.1) := by
  have e1 : (ws.map fun kv => kV kv.1) = (ws.map (·.1)).map kV := by rw [List.map_map]; rfl
  have e2 : (kvs.map fun kv => keyD kv.1) = (kvs.map (·.1)).map keyD := by rw [List.map_map]; rfl
  rw [e1, e2, q.1]
  exact repKeyL _
end
section
variable {κ : Type} [DecidableEq κ] {K : PySem.W.Frag} {r : Rho} {n : Nat} {H : Hp}
theorem repK_get (k : κ) : ∀ {kvs : List (κ × D)} {ws : List (κ × V)}, RepK K r n H ws kvs →
    (∀ d, kget kvs k = some d → ∃ u, valV ws k = some u ∧ RepV K r n H u d) ∧ (kget kvs k = none → valV ws k = none)
  | [], [], _ => ⟨fun d e => (by cases e), fun _ => rfl⟩
  | [], w :: ws, q => nomatch q.1
  | p :: kvs, [], q => nomatch q.1
  | p :: kvs, w :: ws, q => by
    obtain ⟨q1, q2⟩ := q
    simp only [List.map_cons, List.cons.injEq] at q1
    simp only [List.map_cons] at q2
    cases q2 with
    | cons a b =>
      by_cases hk : p.1 = k
      · have hw : w.1 = k := q1.1.trans hk
        rw [valV_pos hw]
        have e : kget (p :: kvs) k = some p.2 := by simp [kget, List.find?_cons, hk]
        rw [e]
        exact ⟨fun d z => by cases z; exact ⟨_, rfl, a⟩, fun z => by cases z⟩
      · have hw : ¬ w.1 = k := fun z => hk (q1.1.symm.trans z)
        rw [valV_neg hw]
        have e : kget (p :: kvs) k = kget kvs k := by simp [kget, List.find?_cons, hk]
        rw [e]
        exact repK_get k ⟨q1.2, b⟩
end
section
variable {K : PySem.W.Frag} {W : XK} {r : Rho} {h h' : Hm} {H : Hp} {Q : VK} {res : Except String D} {v w : V} {x y : D}
theorem dget_of (S : Sim K r h H) {a : Nat} {o : Option D} (rv : RepV K r h.next H v x) (e : dget h a x = some o) :
    ∃ u, DGet H (r a) v u ∧ (∀ d, o = some d → ∃ z, u = some z ∧ RepV K r h.next H z d) ∧ (o = none → u = none) := by
  unfold dget at e
  split at e
  · rename_i kvs ha
    obtain ⟨k, e1, e2⟩ := Option.map_eq_some_iff.mp e
    obtain ⟨ws, h1, q⟩ := (S.obj a _ ha).2
    obtain ⟨g1, g2⟩ := repK_get k q
    rw [key_of rv e1]
    refine ⟨_, DGet.k h1, fun d z => ?_, fun z => ?_⟩
    · rw [z] at e2
      exact g1 d e2
    · rw [z] at e2
      exact g2 e2
  · rename_i kvs ha
    obtain ⟨k, e1, e2⟩ := Option.map_eq_some_iff.mp e
    obtain ⟨ob, ws, h1, q⟩ := (S.obj a _ ha).2
    obtain ⟨g1, g2⟩ := repK_get k q
    rw [key_of rv e1]
    refine ⟨_, Or.inl ⟨ws, k, .inr ⟨ob, h1⟩, rfl, rfl⟩, fun d z => ?_, fun z => ?_⟩
    · rw [z] at e2
      exact g1 d e2
    · rw [z] at e2
      exact g2 e2
  · cases e
theorem s_in {b : Bool} (S : Sim K r h H) (rv : RepV K r h.next H v x) (rw_ : RepV K r h.next H w y) (e : inD x y h = some b) (g : Bool) (p : Q (.bl (if g = true then !b else b)) H) :
    rSgn g v w H Q ∨ (rSub g v w H Q ∨ (rIn K g v w H Q ∨ rKey g v w H Q)) := by
  cases rw_ with
  | str z =>
    cases rv with
    | str s =>
      simp only [inD, Option.some.injEq] at e
      unfold inS at e
      split at e
      · rename_i h1
        refine .inl ⟨s.cps.getD 0 0, z, ?_, rfl, ?_⟩
        · have e1 : s.cps = #[s.cps.getD 0 0] := by
            apply Array.ext
            · simpa using h1
            · intro i hi1 hi2
              have : i = 0 := by simp at hi2; exact hi2
              subst this
              simp [Array.getD, hi1]
          obtain ⟨c⟩ := s
          simp only at e1 ⊢
          exact congrArg (fun c => V.str ⟨c⟩) e1
        · subst e
          exact p
      · refine .inr (.inl ⟨s, z, rfl, rfl, ?_⟩)
        subst e
        exact p
    | _ => cases e
  | @tup a vs ds hT q =>
    simp only [inD, inL] at e
    split at e
    · rename_i hf
      cases e
      refine .inr (.inr (.inl ⟨a, vs, rfl, .inr hT, flat_of rv hf.1, flatL_of q hf.2, ?_⟩))
      rw [inL_of rv hf.1 q hf.2]
      exact p
    · cases e
  | @ref a la =>
    simp only [inD] at e
    split at e
    · rename_i xs ha
      obtain ⟨vs, h1, q⟩ := (S.obj a _ ha).2
      simp only [inL] at e
      split at e
      · rename_i hf
        cases e
        refine .inr (.inr (.inl ⟨_, vs, rfl, .inl (.inl (.inl h1)), flat_of rv hf.1, flatL_of q hf.2, ?_⟩))
        rw [inL_of rv hf.1 q hf.2]
        exact p
      · cases e
    · rename_i xs ha
      obtain ⟨vs, h1, q⟩ := (S.obj a _ ha).2
      simp only [inL] at e
      split at e
      · rename_i hf
        cases e
        refine .inr (.inr (.inl ⟨_, vs, rfl, .inl h1.l, flat_of rv hf.1, flatL_of q hf.2, ?_⟩))
        rw [inL_of rv hf.1 q hf.2]
        exact p
      · cases e
    · rename_i kvs ha
      obtain ⟨o, e1, e2⟩ := Option.map_eq_some_iff.mp e
      obtain ⟨u, d1, d2, d3⟩ := dget_of S rv e1
      refine .inr (.inr (.inr ⟨_, u, rfl, d1, ?_⟩))
      have e3 : u.isSome = b := by
        rw [← e2]
        cases o with
        | none =>
          rw [d3 rfl]
          rfl
        | some d =>
          obtain ⟨z, ez, _⟩ := d2 d rfl
          rw [ez]
          rfl
      rw [e3]
      exact p
    · rename_i kvs ha
      obtain ⟨o, e1, e2⟩ := Option.map_eq_some_iff.mp e
      obtain ⟨u, d1, d2, d3⟩ := dget_of S rv e1
      refine .inr (.inr (.inr ⟨_, u, rfl, d1, ?_⟩))
      have e3 : u.isSome = b := by
        rw [← e2]
        cases o with
        | none =>
          rw [d3 rfl]
          rfl
        | some d =>
          obtain ⟨z, ez, _⟩ := d2 d rfl
          rw [ez]
          rfl
      rw [e3]
      exact p
    · cases e
  | _ => cases e
theorem s_kget {ws : List (Key × V)} {kvs : List (Key × D)} : ∀ (q1 : ws.map (·.1) = kvs.map (·.1)) (q2 : RepL K r h.next H (ws.map (·.2)) (kvs.map (·.2))) {k : Key} {d : D}, kget kvs k = some d → ∃ x, lkV ws k = some x ∧ RepV K r h.next H x d := by
  induction kvs generalizing ws with
  | nil =>
    intro q1 q2 k d e
    cases e
  | cons p ps ih =>
    intro q1 q2 k d e
    cases ws with
    | nil => cases q1
    | cons v vs =>
      rw [List.map_cons, List.map_cons] at q1 q2
      injection q1 with q3 q4
      cases q2 with
      | cons a t =>
        unfold kget at e
        unfold lkV
        rw [List.find?_cons] at e ⊢
        by_cases hk : p.1 = k
        · rw [decide_eq_true hk] at e
          rw [decide_eq_true (q3.trans hk)]
          cases e
          exact ⟨_, rfl, a⟩
        · rw [decide_eq_false hk] at e
          rw [decide_eq_false (fun z => hk (q3.symm.trans z))]
          exact ih q4 t e
theorem s_kmem {ws : List (Key × V)} {kvs : List (Key × D)} : ∀ (q1 : ws.map (·.1) = kvs.map (·.1)) (q2 : RepL K r h.next H (ws.map (·.2)) (kvs.map (·.2))) {p : Key × V}, p ∈ ws → ∃ d, (p.1, d) ∈ kvs ∧ RepV K r h.next H p.2 d := by
  induction kvs generalizing ws with
  | nil =>
    intro q1 q2 p hp
    cases ws with
    | nil => cases hp
    | cons v vs => cases q1
  | cons k ks ih =>
    intro q1 q2 p hp
    cases ws with
    | nil => cases hp
    | cons v vs =>
      rw [List.map_cons, List.map_cons] at q1 q2
      injection q1 with q3 q4
      cases q2 with
      | cons a t =>
        rcases List.mem_cons.mp hp with e | hp
        · subst e
          refine ⟨k.2, ?_, a⟩
          rw [q3]
          exact List.mem_cons_self ..
        · obtain ⟨d, h1, h2⟩ := ih q4 t hp
          exact ⟨d, List.mem_cons_of_mem _ h1, h2⟩
theorem repL_get : ∀ {vs : List V} {ds : List D} {j : Nat} {x : V}, RepL K r h.next H vs ds → vs[j]? = some x → ∃ d, ds[j]? = some d ∧ RepV K r h.next H x d
  | _, _, _, _, .nil, e => by simp at e
  | _, _, 0, _, .cons a _, e => by simp at e; subst e; exact ⟨_, rfl, a⟩
  | _, _, j + 1, x, .cons _ t, e => by
    obtain ⟨u, h1, h2⟩ := repL_get (j := j) (x := x) t (by simpa using e)
    exact ⟨u, by simpa using h1, h2⟩
theorem s_tw (S : Sim K r h H) {n : Nat} {x y : D} (t : TwH h n x y) : ∀ v w, RepV K r h.next H v x → RepV K r h.next H w y → Tw H n v w := by
  induction t with
  | int n i =>
    intro v w a b
    cases a; cases b
    exact .int n i
  | non n =>
    intro v w a b
    cases a; cases b
    exact .non n
  | lst ha hb hl hx ih =>
    intro v w a b
    cases a; cases b
    obtain ⟨vs, h1, q1⟩ := (S.obj _ _ ha).2
    obtain ⟨ws, h2, q2⟩ := (S.obj _ _ hb).2
    refine .lst h1 h2 (by rw [q1.len, q2.len, hl]) fun j v w e1 e2 => ?_
    obtain ⟨d1, f1, p1⟩ := repL_get q1 e1
    obtain ⟨d2, f2, p2⟩ := repL_get q2 e2
    exact ih j d1 d2 f1 f2 v w p1 p2
  | @dic n a b ks ls f ha hb hl hk ht ih =>
    intro v w a' b'
    cases a'; cases b'
    obtain ⟨vs, h1, q1, q1'⟩ := (S.obj _ _ ha).2
    obtain ⟨ws, h2, q2, q2'⟩ := (S.obj _ _ hb).2
    have lk : ∀ p ∈ vs, ∃ x, lkV ws p.1 = some x ∧ Tw H n p.2 x := fun p hp => by
      obtain ⟨d, hd, rd⟩ := s_kmem q1 q1' hp
      obtain ⟨x, hx, rx⟩ := s_kget q2 q2' (hk _ hd)
      exact ⟨x, hx, ih _ hd p.2 x rd rx⟩
    refine .dic (fun k => (lkV ws k).getD .non) h1 h2 ?_ (fun p hp => ?_) fun p hp => ?_
    · have e1 := congrArg List.length q1
      have e2 := congrArg List.length q2
      rw [List.length_map, List.length_map] at e1 e2
      omega
    · obtain ⟨x, hx, _⟩ := lk p hp
      rw [hx]; rfl
    · obtain ⟨x, hx, tx⟩ := lk p hp
      show Tw H n p.2 ((lkV ws p.1).getD .non)
      rw [hx]; exact tx
theorem s_twT (S : Sim K r h H) (rv : RepV K r h.next H v x) (rw_ : RepV K r h.next H w y) (t : TwT x y h) : ∃ n a b xs ys, n ≤ 30 ∧ v = .ref a ∧ w = .ref b ∧ H a = some (.lst xs) ∧ H b = some (.lst ys) ∧ xs.length = ys.length ∧ ∀ (j : Nat) (x y : V), xs[j]? = some x → ys[j]? = some y → Tw H n x y := by
  obtain ⟨a, b, xs, ys, rfl, rfl, ha, hb, t⟩ := t
  have tt := s_tw S t v w rv rw_
  cases rv; cases rw_
  obtain ⟨vs, h1, q1⟩ := (S.obj _ _ ha).2
  obtain ⟨ws, h2, q2⟩ := (S.obj _ _ hb).2
  cases tt with
  | lst ha' hb' hl hx => exact ⟨19, _, _, _, _, by omega, rfl, rfl, ha', hb', hl, hx⟩
  | dic f ha' => rw [h1] at ha'; cases ha'
open Classical in
theorem s_cmp {o : Cop} {b : Bool} (S : Sim K r h H) (rv : RepV K r h.next H v x) (rw_ : RepV K r h.next H w y) (e : cmpD o x y h = some b) (p : Q (.bl b) H) : rCm K o v w H Q := by
  cases o with
  | eqT =>
    have e : (if TwT x y h then some true else none) = some b := e
    split at e
    · rename_i t
      cases e
      obtain ⟨n, a, b, xs, ys, h1, h2, h3, h4, h5, h6, h7⟩ := s_twT S rv rw_ t
      exact ⟨n, a, b, xs, ys, h1, h2, h3, h4, h5, h6, h7, p⟩
    · cases e
  | neT =>
    have e : (if TwT x y h then some false else none) = some b := e
    split at e
    · rename_i t
      cases e
      obtain ⟨n, a, b, xs, ys, h1, h2, h3, h4, h5, h6, h7⟩ := s_twT S rv rw_ t
      exact ⟨n, a, b, xs, ys, h1, h2, h3, h4, h5, h6, h7, p⟩
    · cases e
  | eq =>
    rcases s_eqD S rv rw_ e with ⟨h1, h2⟩ | ⟨d, c, h1, h2, h3, h4, h5⟩
    · exact .inl ⟨h1, by rw [h2]; exact p⟩
    · exact .inr ⟨d, c, h1, h2, h3, h4, by rw [h5]; exact p⟩
  | ne =>
    obtain ⟨k, e1, e2⟩ := Option.map_eq_some_iff.mp (show (eqD x y h).map (fun b => !b) = some b from e)
    subst e2
    rcases s_eqD S rv rw_ e1 with ⟨h1, h2⟩ | ⟨d, c, h1, h2, h3, h4, h5⟩
    · exact .inl ⟨h1, by rw [h2]; exact p⟩
    · exact .inr ⟨d, c, h1, h2, h3, h4, by rw [h5]; exact p⟩
  | lt =>
    cases rv with
    | int i =>
      cases rw_ with
      | int j => cases e; exact ⟨_, _, rfl, rfl, p⟩
      | _ => cases e
    | _ => cases e
  | le =>
    cases rv with
    | int i =>
      cases rw_ with
      | int j => cases e; exact ⟨_, _, rfl, rfl, p⟩
      | _ => cases e
    | _ => cases e
  | gt =>
    cases rv with
    | int i =>
      cases rw_ with
      | int j => cases e; exact ⟨_, _, rfl, rfl, p⟩
      | _ => cases e
    | _ => cases e
  | ge =>
    cases rv with
    | int i =>
      cases rw_ with
      | int j => cases e; exact ⟨_, _, rfl, rfl, p⟩
      | _ => cases e
    | _ => cases e
  | isN =>
    cases rw_ with
    | non => cases rv <;> (cases e; exact .inl ⟨rfl, by simpa using p⟩)
    | bl b => cases rv <;> (cases e; try exact .inr ⟨_, _, rfl, rfl, p⟩)
    | _ => cases rv <;> cases e
  | notN =>
    cases rw_ with
    | non => cases rv <;> (cases e; exact .inl ⟨rfl, by simpa using p⟩)
    | bl b => cases rv <;> (cases e; try exact .inr ⟨_, _, rfl, rfl, p⟩)
    | _ => cases rv <;> cases e
  | inn => exact s_in S rv rw_ e false p
  | nin =>
    obtain ⟨k, e1, e2⟩ := Option.map_eq_some_iff.mp (show (inD x y h).map (fun b => !b) = some b from e)
    subst e2
    exact s_in S rv rw_ e1 true p

theorem atD_of {xs : List D} {vs : List V} {i : Int} {d : D} (q : RepL K r h.next H vs xs) (e : atD xs i = some d) : ∃ u, atI vs i = some u ∧ RepV K r h.next H u d := by
  have hl := q.len
  unfold atD at e
  unfold L2.atI L2.ixN
  by_cases h0 : 0 ≤ i
  · rw [if_pos h0] at e ⊢
    have hi : i.toNat < xs.length := (List.getElem?_eq_some_iff.mp e).1
    rw [if_pos (show i < (vs.length : Int) by omega)]
    exact q.get e
  · rw [if_neg h0] at e ⊢
    by_cases h1 : -(xs.length : Int) ≤ i
    · rw [if_pos h1] at e
      rw [if_pos (show -(vs.length : Int) ≤ i by omega), hl]
      exact q.get e
    · rw [if_neg h1] at e
      cases e
theorem atS_of {xs : List Nat} {i : Int} {c : Nat} (e : atD xs i = some c) : atI xs i = some c := by
  unfold atD at e
  unfold L2.atI L2.ixN
  by_cases h0 : 0 ≤ i
  · rw [if_pos h0] at e ⊢
    have hi : i.toNat < xs.length := (List.getElem?_eq_some_iff.mp e).1
    rw [if_pos (show i < (xs.length : Int) by omega)]
    exact e
  · rw [if_neg h0] at e ⊢
    by_cases h1 : -(xs.length : Int) ≤ i
    · rw [if_pos h1] at e
      rw [if_pos h1]
      exact e
    · rw [if_neg h1] at e
      cases e
theorem s_idx {d : D} (S : Sim K r h H) (rv : RepV K r h.next H v x) (rw_ : RepV K r h.next H w y) (e : idxD x y h = some d) (p : PG K W r h H (RepV K) Q (.ok d) h) : rIx K v w H Q := by
  cases rw_ with
  | int i =>
    cases rv with
    | @tup a vs ds hT q =>
      obtain ⟨u, e1, q1⟩ := atD_of q e
      exact .inr (.inl ⟨a, vs, i, u, rfl, rfl, hT, e1, s_plain S q1 p⟩)
    | @ref a la =>
      simp only [idxD] at e
      split at e
      · rename_i xs ha
        obtain ⟨vs, h1, q⟩ := (S.obj a _ ha).2
        obtain ⟨u, e1, q1⟩ := atD_of q e
        exact .inl ⟨_, vs, i, u, rfl, rfl, .inl (.inl h1), e1, s_plain S q1 p⟩
      · rename_i xs ha
        obtain ⟨vs, h1, q⟩ := (S.obj a _ ha).2
        obtain ⟨u, e1, q1⟩ := atD_of q e
        exact .inl ⟨_, vs, i, u, rfl, rfl, h1.l, e1, s_plain S q1 p⟩
      · cases e
    | str z =>
      simp only [idxD] at e
      split at e
      · rename_i hl
        obtain ⟨c, e1, e2⟩ := Option.map_eq_some_iff.mp e
        subst e2
        exact .inr (.inr ⟨z, i, c, rfl, rfl, lim_le hl, atS_of e1, s_plain S (.str _) p⟩)
      · cases e
    | _ => cases e
  | _ => cases rv <;> cases e

theorem sI_eq : sI = HT.sIx := by
  funext n d o
  cases o <;> rfl
theorem cut_of {xs : List D} {vs : List V} (lo hi : Option Int) (q : RepL K r h.next H vs xs) : RepL K r h.next H (cutV vs lo hi) (cut xs lo hi) := by
  unfold cutV cut
  rw [sI_eq, q.len]
  exact (q.drop _).take _
theorem cut_all {xs : List D} {lo hi : Option Int} (e : HT.sIx xs.length 0 lo = 0 ∧ HT.sIx xs.length xs.length hi = xs.length) : cut xs lo hi = xs := by
  unfold cut
  rw [sI_eq, e.1, e.2]
  simp
def rSlZ (K : PySem.W.Frag) : V → Option Int → Option Int → Hp → VK → Prop := fun x lo hi H Q => rSlL K x lo hi H Q ∨ (rSlA K x lo hi H Q ∨ rSlS x lo hi H Q)
theorem z_slice {X : Cx} : SlR X (rSlZ X.K) := sl_list.or (sl_tupA.or sl_str)
theorem s_slc {lo hi : Option Int} (S : Sim K r h H) (rv : RepV K r h.next H v x) (e : slcD x lo hi h = some (res, h')) (p : PG K W r h H (RepV K) Q res h') : rSlZ K v lo hi H Q := by
  cases rv with
  | @tup a vs ds hT q =>
    cases e
    refine .inr (.inl ⟨a, vs, rfl, hT, fun al => ?_, fun _ => s_newtup S (cut_of lo hi q) p⟩)
    rw [q.len] at al
    rw [cut_all al] at p
    exact s_plain S (.tup hT q) p
  | @ref a la =>
    simp only [slcD] at e
    split at e
    · rename_i xs ha
      obtain ⟨vs, h1, q⟩ := (S.obj a _ ha).2
      cases e
      exact .inl ⟨_, vs, rfl, .inl (.inl h1), s_newlist S (cut_of lo hi q) p⟩
    · rename_i xs ha
      obtain ⟨vs, h1, q⟩ := (S.obj a _ ha).2
      cases e
      exact .inl ⟨_, vs, rfl, h1.l, s_newlist S (cut_of lo hi q) p⟩
    · cases e
  | str z =>
    simp only [slcD] at e
    split at e
    · rename_i hl
      cases e
      refine .inr (.inr ⟨z, rfl, lim_le hl, ?_⟩)
      have e1 : cutS z lo hi = cutT z lo hi := by
        unfold cutS cutT
        rw [sI_eq]
      rw [e1]
      exact s_plain S (.str _) p
    · cases e
  | _ => cases e

theorem s_tru {b : Bool} (S : Sim K r h H) (rv : RepV K r h.next H v x) (e : truD x h = some b) : TruV K v H b := by
  cases rv with
  | non => cases e; rfl
  | bl c => cases e; rfl
  | int i => cases e; rfl
  | exc k a => cases e
  | xob k h z f => cases e
  | str s =>
    simp only [truD] at e
    split at e
    · rename_i hl
      cases e
      exact ⟨lim_le hl, rfl⟩
    · cases e
  | @tup a vs ds hT q =>
    cases e
    refine .inr (.inl ⟨vs, hT, ?_⟩)
    cases q <;> rfl
  | @ref a la =>
    simp only [truD] at e
    split at e
    · rename_i xs ha
      obtain ⟨vs, h1, q⟩ := (S.obj a _ ha).2
      cases e
      refine .inl ⟨vs, .inl (.inl h1), ?_⟩
      cases q <;> rfl
    · rename_i xs ha
      obtain ⟨vs, h1, q⟩ := (S.obj a _ ha).2
      cases e
      refine .inl ⟨vs, h1.l, ?_⟩
      cases q <;> rfl
    · rename_i kvs ha
      obtain ⟨ws, h1, q⟩ := (S.obj a _ ha).2
      cases e
      refine .inr (.inr ⟨ws, h1, ?_⟩)
      have el : ws.length = kvs.length := by simpa using congrArg List.length q.1
      cases ws <;> cases kvs <;> first | rfl | cases el
    · cases e
end
end Z

set_option maxRecDepth 100000
set_option maxHeartbeats 4000000
namespace Z.MinD
open PySem
open Sem (wp)
def kw (d : Value) : List (Str × Value) := [(("default" : Str), d)]
section
variable {prog : Program} {w : World} {A : Around} {R : Result → Shared → Prop} {I : Addr} {fp wr : List Addr} {n : Nat} {P : Nat → Value → Prop} {St : Nat → Heap → Prop} {d : Value}
theorem nm : (toString "min" ++ toString ".loop" : String) = "min.loop" := by decide
theorem on (W : Walks prog w A.in1 I fp wr n P St) (bt : Nat → Nat → Bool) (hcmp : CmpOf prog w A.in1 .Lt P bt) (S : Addr) (hSf : S ∉ fp) :
    ∀ (k j : Nat) (s : Shared) (vb : Value) (c : Nat), n - (j + 1) = k → j + 1 ≤ n → St (j + 1) s.heap → P (argBest bt j) vb →
    s.heap.get? S = some { cls := .type "list", dict := none, data := .seq #[vb, vb] c, slots := #[] } →
    (∀ v h' tk, P (argBest bt (n - 1)) v → (∀ b o, b ∉ wr → b ≠ S → s.heap.get? b = some o → h'.get? b = some o) → R (.ok (.ret v)) { s with heap := h', toks := tk }) →
    codeAny (model prog w) A (.builtin "min.loop" ⟨[.ref I, .none, .ref S], kw d⟩) R s := by
  have hSw : S ∉ wr := fun h => hSf (W.sub _ h)
  intro k
  induction k with
  | zero =>
    intro j s vb c hk hj hst hPb hS hR
    have hin : j + 1 = n := by omega
    refine codeAny_builtin F.entry_min_loop ?_
    rw [Around.under_plainId F.plain_min_loop _]
    refine wpAny_bind (wpAny_seqItems hS rfl ?_)
    show wpAny _ A.in1 (tryCatch (pyNext (.ref I)) _ >>= _) _ _ s
    refine wpAny_bind (wpAny_tryCatch (W.done s _ _ (hin ▸ hst) fun h' tk hk' => ?_))
    have hS' := hk' S _ hSw hS
    show wpAny _ A.in1 (updateSeq S (fun _ => #[]) >>= _) _ _ _
    refine wpAny_bind (wpAny_updateSeq hS' rfl (wpAny_bind (wpAny_letGo (wpAny_pure ?_))))
    exact hR vb _ tk (by rw [← hin]; exact hPb) fun b o hbw hbS e => (Heap.get?_update_other _ _ (Ne.symm hbS)).trans (hk' b o hbw e)
  | succ k ih =>
    intro j s vb c hk hj hst hPb hS hR
    have hlt : j + 1 < n := by omega
    refine codeAny_builtin F.entry_min_loop ?_
    rw [Around.under_plainId F.plain_min_loop _]
    refine wpAny_bind (wpAny_seqItems hS rfl ?_)
    show wpAny _ A.in1 (tryCatch (pyNext (.ref I)) _ >>= _) _ _ s
    refine wpAny_bind (wpAny_tryCatch (W.item (j + 1) s _ _ hlt hst fun v h' tk hP hst' hk' => ?_))
    have hS' := hk' S _ hSw hS
    show wpAny _ A.in1 (tryCatch (holding [v, v] (richCompare .Lt v vb >>= _)) _ >>= _) _ _ _
    refine wpAny_bind (wpAny_tryCatch (wpAny_holding (wpAny_bind (hcmp (j + 1) (argBest bt j) v vb _ _ _ hP hPb ?_))))
    refine wpAny_bind (wpAny_holding (wpAny_truthy_bool ?_))
    refine wpAny_bind (wpAny_letGo (wpAny_pure ?_))
    cases hb : bt (j + 1) (argBest bt j) with
    | true =>
      simp only [if_true]
      refine wpAny_bind (wpAny_updateSeq hS' rfl (wpAny_bind (wpAny_letGo ?_)))
      rw [nm]
      refine wpAny_pure ⟨plainId_quiet F.plain_min_loop _, ih (j + 1) _ v _ (by omega) hlt (W.frame _ _ _ hst' fun b hbf o e => ?_) (by simp only [argBest, hb, if_true]; exact hP) (Heap.get?_update_self _ hS' rfl)
        fun v' h'' tk'' hP' hk'' => hR v' h'' tk'' hP' fun b o hbw hbS e => hk'' b o hbw hbS ((Heap.get?_update_other _ _ (Ne.symm hbS)).trans (hk' b o hbw e))⟩
      exact (Heap.get?_update_other _ _ (fun h : S = b => hSf (by rw [h]; exact hbf))).trans e
    | false =>
      simp only [Bool.false_eq_true, if_false]
      refine wpAny_bind (wpAny_letGo ?_)
      rw [nm]
      exact wpAny_pure ⟨plainId_quiet F.plain_min_loop _, ih (j + 1) _ vb c (by omega) hlt hst' (by simp only [argBest, hb, Bool.false_eq_true, if_false]; exact hPb) hS'
        fun v' h'' tk'' hP' hk'' => hR v' h'' tk'' hP' fun b o hbw hbS e => hk'' b o hbw hbS (hk' b o hbw e)⟩
theorem first (W : Walks prog w A.in1 I fp wr n P St) (bt : Nat → Nat → Bool) (hcmp : CmpOf prog w A.in1 .Lt P bt) (S : Addr) (hSf : S ∉ fp) {s : Shared} {c : Nat} (hst : St 0 s.heap)
    (hS : s.heap.get? S = some { cls := .type "list", dict := none, data := .seq #[] c, slots := #[] })
    (hR : ∀ v h' tk, (n = 0 → v = d) → (0 < n → P (argBest bt (n - 1)) v) → (∀ b o, b ∉ wr → b ≠ S → s.heap.get? b = some o → h'.get? b = some o) → R (.ok (.ret v)) { s with heap := h', toks := tk }) :
    codeAny (model prog w) A (.builtin "min.loop" ⟨[.ref I, .none, .ref S], kw d⟩) R s := by
  have hSw : S ∉ wr := fun h => hSf (W.sub _ h)
  refine codeAny_builtin F.entry_min_loop ?_
  rw [Around.under_plainId F.plain_min_loop _]
  refine wpAny_bind (wpAny_seqItems hS rfl ?_)
  show wpAny _ A.in1 (tryCatch (pyNext (.ref I)) _ >>= _) _ _ s
  rcases Nat.eq_zero_or_pos n with hn | hn
  · refine wpAny_bind (wpAny_tryCatch (W.done s _ _ (hn ▸ hst) fun h' tk hk' => ?_))
    refine wpAny_bind (wpAny_rule (wpAny_pure ?_))
    exact hR d h' tk (fun _ => rfl) (fun h => absurd h (by omega)) fun b o hbw _ e => hk' b o hbw e
  · refine wpAny_bind (wpAny_tryCatch (W.item 0 s _ _ hn hst fun v h' tk hP hst' hk' => ?_))
    have hS' := hk' S _ hSw hS
    refine wpAny_bind (wpAny_pure ?_)
    refine wpAny_bind (wpAny_updateSeq hS' rfl ?_)
    rw [nm]
    refine wpAny_pure ⟨plainId_quiet F.plain_min_loop _, on W bt hcmp S hSf _ 0 _ v _ rfl hn (W.frame _ _ _ hst' fun b hbf o e => ?_) hP (Heap.get?_update_self _ hS' rfl)
      fun v' h'' tk'' hP' hk'' => hR v' h'' tk'' (fun h => absurd h (by omega)) (fun _ => hP') fun b o hbw hbS e => hk'' b o hbw hbS ((Heap.get?_update_other _ _ (Ne.symm hbS)).trans (hk' b o hbw e))⟩
    exact (Heap.get?_update_other _ _ (fun h : S = b => hSf (by rw [h]; exact hbf))).trans e
end
section
variable {prog : Program} {w : World} {A : Around} {E : Value → Shared → Prop} {s : Shared} {d : Value}
theorem args (a : Value) : argsOk "min" ⟨[a], kw d⟩ := by unfold argsOk kw; kernel_rfl
end
end Z.MinD

set_option maxRecDepth 100000
set_option maxHeartbeats 4000000
namespace Z.Kept
open PySem L2
section
variable {X : Cx} {pins : List (Addr × Obj)} {σ : L2.St} {H : Hp} {s : Shared} {a : Addr} {oe : Obj}
end
def ends (i : Nat) (a : Addr) (oe : Obj) (D : Ends) : Ends := { nx := fun σ H => D.nx (σ.set i none) (upd H a (.frz oe xT)), rt := fun _ _ => False }
def wish (K : PySem.W.Frag) (c : Value) (i : Nat) (ts : Addr → TS) (D : Ends) : WX := fun cls d σ H =>
  PySem.W.exmOne K cls c = some true ∧ ∀ a oe, H a = none → Zc cls d oe → (∃ vs, oe.data = .fields vs) → ts a (ends i a oe D) (σ.set i (some (.ref a))) H
section
variable {X : Cx} {x n : Str} {c : Value} {i : Nat} {body suite : List Stmt} {b₀ : Stmt} {np pos pos' : Pos} {tb : WX → TS} {ts : Addr → TS}
end
def rIsO (K : PySem.W.Frag) : List V → Hp → VK → Prop := fun xs H Q => ∃ (a D : Addr) (oe : Obj) (c : V) (cv : Value) (b : Bool), xs = [.ref a, c] ∧ H a = some (.frz oe xT) ∧ Zc (.ref D) none oe ∧ (∃ vs, oe.data = .fields vs) ∧ ExcC K D ∧ (∀ u, RelV c u → u = cv) ∧
  PySem.W.kitOne K (.ref D) cv = some b ∧ Q (.bl b) H
end Z.Kept

set_option maxRecDepth 100000
set_option maxHeartbeats 1000000
namespace Z
open PySem L2

abbrev rLenD : List V → Hp → VK → Prop := fun xs H Q => ∃ a kvs, xs = [V.ref a] ∧ H a = some (.dK kvs) ∧ Q (.int kvs.length) H
abbrev rLenA (K : PySem.W.Frag) : List V → Hp → VK → Prop := fun xs H Q => ∃ x n, xs = [x] ∧ LenV K x H n ∧ Q (.int n) H
abbrev rInt1 : List V → Hp → VK → Prop := fun xs H Q => (∃ i, xs = [.int i] ∧ Q (.int i) H) ∨ ∃ k, xs = [.bl k] ∧ Q (.int (if k then 1 else 0)) H
abbrev rIntS : List V → Hp → VK → Prop := fun xs H Q => ∃ a n, xs = [.str a] ∧ PySem.intText? a = some n ∧ a.length ≤ 640 ∧ Q (.int n) H
abbrev rStrI : List V → Hp → VK → Prop := fun xs H Q => ∃ i, xs = [.int i] ∧ i.natAbs.log2 < 1920 ∧ Q (.str (toString i)) H
abbrev rListA (K : PySem.W.Frag) : List V → Hp → VK → Prop := fun xs H Q => ∃ p ys, xs = [.ref p] ∧ (SqL K H p ys ∨ SqT K H p ys) ∧ ∀ l, H l = none → Q (.ref l) (upd H l (.lst ys))
abbrev rTupleA (K : PySem.W.Frag) : List V → Hp → VK → Prop := fun xs H Q => ∃ p ys, xs = [.ref p] ∧ ((SqL K H p ys ∧ ∀ l, H l = none → Q (.ref l) (upd H l (.tup ys))) ∨ (SqT K H p ys ∧ Q (.ref p) H))
abbrev rDictA : List V → Hp → VK → Prop := fun xs H Q => ∃ (a : Addr) (kvs : List (Key × V)), xs = [.ref a] ∧ Rd H a (.dK kvs) ∧ ∀ p, H p = none → Q (.ref p) (upd H p (.dK kvs))
abbrev rMin2 : List V → Hp → VK → Prop := fun xs H Q => ∃ i j, xs = [.int i, .int j] ∧ Q (.int (if j < i then j else i)) H
abbrev rMax2 : List V → Hp → VK → Prop := fun xs H Q => ∃ i j, xs = [.int i, .int j] ∧ Q (.int (if j > i then j else i)) H
abbrev rSrtD : List V → Hp → VK → Prop := fun xs H Q => ∃ (a : Addr) (kvs : List (Key × V)) (ks : List Int), xs = [.ref a] ∧ Rd H a (.dK kvs) ∧ kvs.map (·.1) = ks.map Sum.inl ∧ ks.length < 900000 ∧
    ∀ (ys : List Int) (p : Addr), ys.Perm ks → ys.Pairwise (· ≤ ·) → H p = none → Q (.ref p) (upd H p (.lst (ys.map V.int)))
abbrev rDivmod : List V → Hp → VK → Prop := fun xs H Q => ∃ i j, xs = [.int i, .int j] ∧ CDivP i j ∧ ∀ p, H p = none → Q (.ref p) (upd H p (.tup [.int (i / j), .int (i % j)]))
abbrev rAbs : List V → Hp → VK → Prop := fun xs H Q => ∃ i, xs = [.int i] ∧ Q (.int (if i < 0 then -i else i)) H
def rListDk : List V → Hp → VK → Prop := fun xs H Q => ∃ (a : Addr) (kvs : List (Key × V)), xs = [.ref a] ∧ Rd H a (.dK kvs) ∧ ∀ p, H p = none → Q (.ref p) (upd H p (.lst (kvs.map fun kv => kV kv.1)))
abbrev rMinD (K : PySem.W.Frag) : List V → Hp → VK → Prop := fun xs H Q => ∃ (a : Addr) (ns : List Int) (d : Int), xs = [.ref a, .int d] ∧ SqL K H a (ns.map V.int) ∧ Q (.int (lmin d ns)) H
abbrev rLset (K : PySem.W.Frag) : List V → Hp → VK → Prop := fun xs H Q => ∃ (a : Addr) (ns : List Int), xs = [.ref a] ∧ SqL K H a (ns.map V.int) ∧ ns.Nodup ∧ ns.length ≤ 4000 ∧ Q (.int (ns.length : Nat)) H
def rMinDk (K : PySem.W.Frag) : List V → List V → Hp → VK → Prop
  | [x], [y] => rMinD K [x, y]
  | _, _ => fun _ _ => False
open PyProof.Rows in
theorem call_srtD {X : Cx} (calm : X.calm = true) : CallR X (.builtin "sorted") rSrtD := by
  rintro pn0 st sg hp0 args vals Post J rr ⟨ad, prs, kys, rfl, rdd, hky, lim, post⟩
  obtain ⟨u0, rfl, ru⟩ := vals1 rr
  cases ru
  obtain ⟨z0, lo0, vs0, rel0, dd0⟩ := dk_rd J.hok rdd
  obtain ⟨ep0, hat0⟩ := dd0.dictAt
  have keyE : vs0.map (·.1) = kys.map Sum.inl := rel0.keys.symm.trans hky
  have lenE : vs0.length = kys.length := by simpa using congrArg List.length keyE
  have sz : sizeLine ≥ 900000 := by rw [sizeLine_eq]; omega
  refine Calls.call_function_entry PyProof.Rows.kind_sorted PyProof.Rows.plain_sorted PyProof.Rows.entry_sorted (PyProof.Rows.args_sorted1 (.ref ad)) ?_
  unfold Builtin.«sorted»
  refine wpAny_bind (m := checkCount "sorted" 1 1 _) (wpAny_pure ?_)
  refine wpAny_bind (PySem.W.kdu_collect (A := X.A.in1) (PySem.W.kdl_dict (knd := mixKind X.prog X.w) (kvs := vs0) (ep := ep0) lo0) (J.ok.hd calm) hat0 (by rw [lenE]; omega) fun hh tt ac hkk hac => ?_)
  have aL : ac.toList.length = kys.length := by rw [Array.length_toList, hac.1, lenE]
  have areI : IntsAre ac.toList kys := by
    refine ints_each aL fun j v ev => ?_
    obtain ⟨k1, x1, w1, w2⟩ := hac.2 j v (by rw [Array.getElem?_toList] at ev; exact ev)
    have w3 : (kys.map (Sum.inl : Int → Key))[j]? = some k1 := by rw [← keyE, List.getElem?_map, w1]; rfl
    rw [List.getElem?_map] at w3
    obtain ⟨y1, w4, w5⟩ := Option.map_eq_some_iff.mp w3
    subst w5
    rcases keyIs_shape (show keyIs (Sum.inl y1) v = true from w2) with ⟨i1, t1, ek, ev1⟩ | ⟨i1, t1, ek, _⟩
    · cases ek; exact ⟨y1, t1, w4, ev1⟩
    · cases ek
  have J1 : Inv X pn0 sg hp0 { st with heap := hh, toks := tt } := J.kept hkk
  refine wpAny_bind (wpAny_newList ?_ (by rw [aL]; omega))
  have hoA : (hh.push (seqObj "list" ac.toList.toArray 0)).get? hh.objs.size = some (seqObj "list" ac.toList.toArray 0) := Heap.get?_push_size _ rfl
  show wpAny _ _ _ _ _ { st with heap := hh.push (seqObj "list" ac.toList.toArray 0), toks := tt }
  refine wpAny_bind (wpAny_holding (wpAny_call_entry PyProof.Rows.slot_list_sort ⟨_, hoA, rfl⟩ PyProof.Rows.entry_list_sort
    (SrtO.list_sort_ord SrtO.swo_int hoA (by rw [aL]; omega) (fun two => SrtO.ints_sortable areI two) fun out o1 o2 => ⟨.none, rfl, ?_⟩) (PyProof.Rows.args_list_sort (.ref hh.objs.size))))
  obtain ⟨k1, k2, k3⟩ := SrtO.ints_out areI o1 o2
  obtain ⟨ef, hef⟩ := PyProof.Rows.sortedHeap_at (vs := ac.toList) (out := out.toArray) hoA
  have outL : ((out.map SrtO.iv).map V.int).length ≤ sizeLine := by
    rw [List.length_map]
    have := k2.length_eq
    omega
  refine wpAny_pure ⟨_, rfl, .ref hh.objs.size, upd hp0 hh.objs.size (.lst ((out.map SrtO.iv).map V.int)), J1.laid (t' := tt) (fun b u eb => ?_) (Nat.le_refl _) ⟨outL, out, ef, vals_of_ints k1, hef⟩, rfl, post _ _ k2 k3 (J1.hok.fresh (Nat.le_refl _))⟩
  have lt : b < hh.objs.size := Heap.lt_size eb
  rw [PyProof.Rows.sortedHeap_old (Nat.ne_of_lt lt) (by rw [size_push']; exact Nat.lt_succ_of_lt lt)]
  exact Heap.get?_push_of_some _ eb
def rBi (K : PySem.W.Frag) : Bi → List V → Hp → VK → Prop
  | .len => fun xs H Q => rLenA K xs H Q ∨ rLenD xs H Q
  | .int => fun xs H Q => rInt1 xs H Q ∨ rIntS xs H Q
  | .str => rStrI
  | .list => fun xs H Q => rListA K xs H Q ∨ rListDk xs H Q
  | .tuple => rTupleA K
  | .dict => rDictA
  | .min2 => rMin2
  | .max2 => rMax2
  | .minD => rMinD K
  | .sum => rSum K
  | .sorted => fun xs H Q => rSortedI K xs H Q ∨ rSrtD xs H Q
  | .divmod => rDivmod
  | .abs => rAbs
  | .any => rAny K
  | .lset => rLset K
section
variable {X : Cx}
theorem z_len : CallR X (.builtin "len") (rBi X.K .len) := CallR.or (r := rLenA X.K) (r' := rLenD) call_len call_lenD
theorem z_int : CallR X (.type "int") (rBi X.K .int) := CallR.or (r := rInt1) (r' := rIntS) call_int1 call_int_str
theorem z_list (hc : X.calm = true) : CallR X (.type "list") (rBi X.K .list) := CallR.or (r := rListA X.K) (r' := rListDk) call_list_of (call_listD hc)
theorem z_min2 (hc : X.calm = true) : CallR X (.builtin "min") (rBi X.K .min2) := call_min2 hc
theorem z_divmod : CallR X (.builtin "divmod") (rBi X.K .divmod) := call_divmodW
end

theorem insI_perm (x : Int) : ∀ l : List Int, (insI x l).Perm (x :: l)
  | [] => .refl _
  | y :: ys => by
    unfold insI
    split
    · exact .refl _
    · exact ((insI_perm x ys).cons y).trans (.swap x y ys)
theorem srt_perm : ∀ l : List Int, (srt l).Perm l
  | [] => .refl _
  | x :: xs => (insI_perm x _).trans ((srt_perm xs).cons x)
theorem insI_sorted (x : Int) : ∀ l : List Int, l.Pairwise (· ≤ ·) → (insI x l).Pairwise (· ≤ ·)
  | [], _ => by simp [insI]
  | y :: ys, h => by
    unfold insI
    have h1 := List.pairwise_cons.mp h
    split
    · rename_i hxy
      refine List.pairwise_cons.mpr ⟨fun z hz => ?_, h⟩
      rcases List.mem_cons.mp hz with rfl | hz
      · exact hxy
      · exact Int.le_trans hxy (h1.1 z hz)
    · rename_i hxy
      refine List.pairwise_cons.mpr ⟨fun z hz => ?_, insI_sorted x ys h1.2⟩
      rcases List.mem_cons.mp ((insI_perm x ys).mem_iff.mp hz) with rfl | hz
      · omega
      · exact h1.1 z hz
theorem srt_sorted : ∀ l : List Int, (srt l).Pairwise (· ≤ ·)
  | [] => .nil
  | x :: xs => insI_sorted x _ (srt_sorted xs)

section
variable {K : PySem.W.Frag} {W : XK} {r : Rho} {h h' : Hm} {H : Hp} {Q : VK} {res : Except String D} {v w : V} {x y : D} {vs : List V} {ds : List D}
theorem s_newdict (S : Sim K r h H) {ws : List (Key × V)} {kvs : List (Key × D)} (q : RepK K r h.next H ws kvs) (p : PG K W r h H (RepV K) Q (.ok (.ref h.next)) (h.new (.dic kvs))) : ∀ a, H a = none → Q (.ref a) (upd H a (.dK ws)) := by
  intro a ha
  have x1 := (Free.extN (K := K) (r := r) (n := h.next) (u := .dK ws) (.inl ha))
  have S1 : Sim K (rn r h.next a) (h.new (.dic kvs)) (upd H a (.dK ws)) := S.new ha rfl ⟨ws, upd_same, RepK.ext x1 q⟩
  have e : V.ref a = .ref (rn r h.next a h.next) := by rw [rn_at]
  exact p _ _ _ S1 x1 (by rw [e]; exact .ref (Nat.lt_succ_self _))
theorem seqOf_of (S : Sim K r h H) (rv : RepV K r h.next H v x) {xs : List D} (e : seqOf x h = some xs) : ∃ p vs, v = .ref p ∧ (SqL K H p vs ∨ SqT K H p vs) ∧ RepL K r h.next H vs xs := by
  cases rv with
  | tup hT q => cases e; exact ⟨_, _, rfl, .inr hT, q⟩
  | @ref a la =>
    simp only [seqOf] at e
    split at e
    · rename_i ys ha
      cases e
      obtain ⟨vs, h1, q⟩ := (S.obj a _ ha).2
      exact ⟨_, vs, rfl, .inl (.inl (.inl h1)), q⟩
    · rename_i ys ha
      cases e
      obtain ⟨vs, h1, q⟩ := (S.obj a _ ha).2
      exact ⟨_, vs, rfl, .inl h1.l, q⟩
    · cases e
  | _ => cases e
theorem lstOf_of (S : Sim K r h H) (rv : RepV K r h.next H v x) {xs : List D} (e : lstOf x h = some xs) : ∃ p vs, v = .ref p ∧ SqL K H p vs ∧ RepL K r h.next H vs xs := by
  cases rv with
  | @ref a la =>
    simp only [lstOf] at e
    split at e
    · rename_i ys ha
      cases e
      obtain ⟨vs, h1, q⟩ := (S.obj a _ ha).2
      exact ⟨_, vs, rfl, .inl (.inl h1), q⟩
    · rename_i ys ha
      cases e
      obtain ⟨vs, h1, q⟩ := (S.obj a _ ha).2
      exact ⟨_, vs, rfl, h1.l, q⟩
    · cases e
  | _ => cases e
theorem one_of {d : D} (q : RepL K r h.next H vs [d]) : ∃ v, vs = [v] ∧ RepV K r h.next H v d := by
  cases q with
  | cons a b => cases b; exact ⟨_, rfl, a⟩
theorem two_of {d e : D} (q : RepL K r h.next H vs [d, e]) : ∃ v w, vs = [v, w] ∧ RepV K r h.next H v d ∧ RepV K r h.next H w e := by
  cases q with
  | cons a b =>
    obtain ⟨w, rfl, c⟩ := one_of b
    exact ⟨_, w, rfl, a, c⟩
theorem s_bi {b : Bi} (S : Sim K r h H) (q : RepL K r h.next H vs ds) (e : biD b ds h = some (res, h')) (p : PG K W r h H (RepV K) Q res h') : rBi K b vs H Q := by
  cases b with
  | len =>
    simp only [biD] at e
    split at e
    · obtain ⟨v, rfl, a⟩ := one_of q
      cases a
      split at e
      · rename_i hl
        cases e
        exact .inl ⟨_, _, rfl, ⟨lim_le hl, rfl⟩, s_plain S (.int _) p⟩
      · cases e
    · obtain ⟨v, rfl, a⟩ := one_of q
      cases a with
      | tup hT q1 =>
        cases e
        refine .inl ⟨_, _, rfl, .inr ⟨_, hT, rfl⟩, ?_⟩
        rw [q1.len]
        exact s_plain S (.int _) p
    · rename_i a0
      obtain ⟨v, rfl, a⟩ := one_of q
      cases a with
      | ref la =>
        split at e
        · rename_i xs ha
          cases e
          obtain ⟨vs, h1, q⟩ := (S.obj a0 _ ha).2
          refine .inl ⟨_, _, rfl, .inl ⟨_, .inl (.inl h1), rfl⟩, ?_⟩
          rw [q.len]
          exact s_plain S (.int _) p
        · rename_i xs ha
          cases e
          obtain ⟨vs, h1, q⟩ := (S.obj a0 _ ha).2
          refine .inl ⟨_, _, rfl, .inl ⟨_, h1.l, rfl⟩, ?_⟩
          rw [q.len]
          exact s_plain S (.int _) p
        · rename_i kvs ha
          cases e
          obtain ⟨ws, h1, q⟩ := (S.obj a0 _ ha).2
          refine .inr ⟨_, ws, rfl, h1, ?_⟩
          have el : ws.length = kvs.length := by simpa using congrArg List.length q.1
          rw [el]
          exact s_plain S (.int _) p
        · cases e
    · cases e
  | int =>
    simp only [biD] at e
    split at e
    · obtain ⟨v, rfl, a⟩ := one_of q
      cases a
      cases e
      exact .inl (.inl ⟨_, rfl, s_plain S (.int _) p⟩)
    · obtain ⟨v, rfl, a⟩ := one_of q
      cases a
      cases e
      exact .inl (.inr ⟨_, rfl, s_plain S (.int _) p⟩)
    · obtain ⟨v, rfl, a⟩ := one_of q
      cases a
      split at e
      · rename_i hl
        split at e
        · rename_i n hn
          cases e
          exact .inr ⟨_, n, rfl, hn, hl, s_plain S (.int _) p⟩
        · cases e
      · cases e
    · cases e
  | str =>
    simp only [biD] at e
    split at e
    · obtain ⟨v, rfl, a⟩ := one_of q
      cases a
      split at e
      · rename_i i hl
        cases e
        refine ⟨i, rfl, ?_, s_plain S (.str _) p⟩
        exact Nat.lt_of_lt_of_le (PySem.Flt.log2_lt_of (show 0 < 250 by decide) (natAbs_big hl)) (by decide)
      · cases e
    · cases e
  | list =>
    simp only [biD] at e
    split at e
    · obtain ⟨v, rfl, a⟩ := one_of q
      split at e
      · rename_i xs hx
        cases e
        obtain ⟨pp, us, e1, e2, e3⟩ := seqOf_of S a hx
        subst e1
        exact .inl ⟨pp, us, rfl, e2, s_newlist S e3 p⟩
      · split at e
        · rename_i a0 _
          cases a with
          | ref la =>
            split at e
            · rename_i kvs ha
              cases e
              obtain ⟨ws, h1, q2⟩ := (S.obj a0 _ ha).2
              exact .inr ⟨_, ws, rfl, .inl h1, s_newlist S (repKeys q2) p⟩
            · cases e
        · cases e
    · cases e
  | tuple =>
    simp only [biD] at e
    split at e
    · obtain ⟨v, rfl, a⟩ := one_of q
      split at e
      · rename_i xs hx
        cases e
        obtain ⟨pp, us, e1, e2, e3⟩ := seqOf_of S a hx
        subst e1
        refine ⟨pp, us, rfl, ?_⟩
        rcases e2 with e2 | e2
        · exact .inl ⟨e2, s_newtup S e3 p⟩
        · exact .inr ⟨e2, s_plain S (.tup e2 e3) p⟩
      · cases e
    · cases e
  | dict =>
    simp only [biD] at e
    split at e
    · rename_i a0
      obtain ⟨v, rfl, a⟩ := one_of q
      cases a with
      | ref la =>
        split at e
        · rename_i kvs ha
          cases e
          obtain ⟨ws, h1, q⟩ := (S.obj a0 _ ha).2
          exact ⟨_, ws, rfl, .inl h1, s_newdict S q p⟩
        · cases e
    · cases e
  | min2 =>
    simp only [biD] at e
    split at e
    · obtain ⟨v, w, rfl, a, b⟩ := two_of q
      cases a
      cases b
      cases e
      exact ⟨_, _, rfl, s_plain S (.int _) p⟩
    · cases e
  | minD =>
    simp only [biD] at e
    split at e
    · obtain ⟨v, w, rfl, a, b⟩ := two_of q
      cases b
      split at e
      · rename_i xs hx
        split at e
        · rename_i ns hn
          cases e
          obtain ⟨pp, us, e1, e2, e3⟩ := lstOf_of S a hx
          subst e1
          rw [e3.ints hn] at e2
          exact ⟨pp, ns, _, rfl, e2, s_plain S (.int _) p⟩
        · cases e
      · cases e
    · cases e
  | max2 =>
    simp only [biD] at e
    split at e
    · obtain ⟨v, w, rfl, a, b⟩ := two_of q
      cases a
      cases b
      cases e
      exact ⟨_, _, rfl, s_plain S (.int _) p⟩
    · cases e
  | sum =>
    simp only [biD] at e
    split at e
    · obtain ⟨v, rfl, a⟩ := one_of q
      split at e
      · rename_i xs hx
        split at e
        · rename_i ns hn
          cases e
          obtain ⟨pp, us, e1, e2, e3⟩ := lstOf_of S a hx
          subst e1
          rw [e3.ints hn] at e2
          exact ⟨pp, ns, rfl, e2, s_plain S (.int _) p⟩
        · cases e
      · cases e
    · cases e
  | any =>
    simp only [biD] at e
    split at e
    · obtain ⟨v, rfl, a⟩ := one_of q
      split at e
      · rename_i xs hx
        split at e
        · rename_i ns hn
          cases e
          obtain ⟨pp, us, e1, e2, e3⟩ := lstOf_of S a hx
          subst e1
          rw [e3.bls hn] at e2
          exact ⟨pp, ns, rfl, e2, s_plain S (.bl _) p⟩
        · cases e
      · cases e
    · cases e
  | lset =>
    simp only [biD] at e
    split at e
    · obtain ⟨v, rfl, a⟩ := one_of q
      split at e
      · rename_i xs hx
        split at e
        · rename_i ns hn
          split at e
          · rename_i hc
            cases e
            obtain ⟨pp, us, e1, e2, e3⟩ := lstOf_of S a hx
            subst e1
            rw [e3.ints hn] at e2
            exact ⟨pp, ns, rfl, e2, hc.1, hc.2, s_plain S (.int _) p⟩
          · cases e
        · cases e
      · cases e
    · cases e
  | sorted =>
    simp only [biD] at e
    split at e
    · obtain ⟨v, rfl, a⟩ := one_of q
      split at e
      · rename_i xs hx
        split at e
        · rename_i ns hn
          cases e
          obtain ⟨pp, us, e1, e2, e3⟩ := lstOf_of S a hx
          subst e1
          rw [e3.ints hn] at e2
          refine .inl ⟨pp, ns, rfl, e2, fun ns' l hp hs hl => ?_⟩
          have en : ns' = srt ns := PySem.W.ksm_same (hp.trans (srt_perm ns).symm) hs (srt_sorted ns)
          subst en
          exact s_newlist S (repInts _) p l hl
        · cases e
      · split at e
        · rename_i a0 n0
          cases a with
          | ref la =>
            split at e
            · rename_i kvs ha
              split at e
              · rename_i ns hn
                split at e
                · rename_i h64
                  cases e
                  obtain ⟨ws, h1, q1⟩ := (S.obj a0 _ ha).2
                  refine .inr ⟨_, ws, ns, rfl, .inl h1, ?_, h64, fun ns' l hp hs hl => ?_⟩
                  · rw [q1.1]
                    clear q1 h1 ha p h64 q
                    induction kvs generalizing ns with
                    | nil => cases hn; rfl
                    | cons kv kvs ih =>
                      obtain ⟨k, d⟩ := kv
                      cases k with
                      | inl i =>
                        simp only [List.map_cons, keyD, ints?] at hn
                        obtain ⟨ms, e1, rfl⟩ := Option.map_eq_some_iff.mp hn
                        rw [List.map_cons, List.map_cons, ih _ e1]
                      | inr s => cases hn
                  · have en : ns' = srt ns := PySem.W.ksm_same (hp.trans (srt_perm ns).symm) hs (srt_sorted ns)
                    subst en
                    exact s_newlist S (repInts _) p l hl
                · cases e
              · cases e
            · cases e
        · cases e
    · cases e
  | divmod =>
    simp only [biD] at e
    split at e
    · obtain ⟨v, w, rfl, a, b⟩ := two_of q
      cases a
      cases b
      split at e
      · rename_i i j hl
        cases e
        refine ⟨i, j, rfl, divp_ok hl.1 ?_, s_newtup S (.cons (.int _) (.cons (.int _) .nil)) p⟩
        have h1 : i.natAbs < 2 ^ 250 := natAbs_big hl.2
        have h2 := PySem.Flt.log2_lt_of (show 0 < 250 by decide) h1
        have h3 : Builtin.Int.intBits i ≤ i.natAbs.log2 + 1 := by
          unfold Builtin.Int.intBits
          split <;> omega
        omega
      · cases e
    · cases e
  | abs =>
    simp only [biD] at e
    split at e
    · obtain ⟨v, rfl, a⟩ := one_of q
      cases a
      cases e
      exact ⟨_, rfl, s_plain S (.int _) p⟩
    · cases e
end
end Z

set_option maxRecDepth 100000
set_option maxHeartbeats 1000000
namespace Z
open PySem L2

theorem pe_imp {X : Cx} {e : Expr} {t t' : TE} (h : PE X e t) (i : ∀ σ H Q, t' σ H Q → t σ H Q) : PE X e t' := ⟨fun pins s σ H Q I q => h.run pins s σ H Q I (i σ H Q q)⟩

def tyB (K : PySem.W.Frag) (b : Bm) (x : V) (H : Hp) : Prop := match b with
  | .append => tyV K "list" x H
  | .pop => tyV K "list" x H
  | .insert => tyV K "list" x H
  | .clear => tyV K "list" x H
  | .index => tyV K "list" x H
  | .get => ∃ a, x = .ref a ∧ IsD H a
  | .get2 => ∃ a, x = .ref a ∧ IsD H a
  | .dpop => ∃ a, x = .ref a ∧ IsD H a
  | _ => ∃ a, x = .str a
def rM (K : PySem.W.Frag) : Bm → V → List V → Hp → VK → Prop
  | .append => rAppend
  | .pop => rPop
  | .insert => fun x vs H Q => ∃ (l : Addr) (xs : List V) (i : Int) (y : V), x = .ref l ∧ vs = [.int i, y] ∧ H l = some (.lst xs) ∧ xs.length < sizeLine ∧ 0 ≤ i ∧ i < 2 ^ 63 ∧
    Q .non (upd H l (.lst (xs.take i.toNat ++ [y] ++ xs.drop i.toNat)))
  | .clear => rClear
  | .index => rIndex K
  | .get => fun x xs H Q => ∃ a k o, x = .ref a ∧ xs = [k] ∧ DGet H a k o ∧ Q (o.getD .non) H
  | .get2 => fun x xs H Q => ∃ a k z o, x = .ref a ∧ xs = [k, z] ∧ DGet H a k o ∧ Q (o.getD z) H
  | .dpop => fun x xs H Q => ∃ a kvs k v, x = .ref a ∧ xs = [kV k] ∧ H a = some (.dK kvs) ∧ valV kvs k = some v ∧ Q v (upd H a (.dK (dropK kvs k)))
  | .join => fun x xs H Q => ∃ a p, ∃ ys : List Str, x = .str a ∧ xs = [.ref p] ∧ (SqL K H p (ys.map V.str) ∨ SqT K H p (ys.map V.str)) ∧
      (ys.map (·.length)).sum + ys.length * a.length ≤ 16777216 ∧ Q (.str (Txt.join a ys)) H
  | .split => fun x xs H Q => ∃ a b, x = .str a ∧ xs = [.str b] ∧ (b.length == 0) = false ∧ a.length + 2 ≤ sizeLine ∧ rNewStrs (Txt.split a b) H Q
  | .partition => fun x xs H Q => ∃ a b, x = .str a ∧ xs = [.str b] ∧ (b.length == 0) = false ∧ a.length ≤ sizeLine ∧
      ∀ p, H p = none → Q (.ref p) (upd H p (.tup [.str (Txt.partition a b).1, .str (Txt.partition a b).2.1, .str (Txt.partition a b).2.2]))
  | .find => fun x xs H Q => ∃ a b, x = .str a ∧ xs = [.str b] ∧ Q (.int (Txt.find a b)) H
  | .isdigit => fun x xs H Q => ∃ a, x = .str a ∧ xs = [] ∧ True ∧ Q (.bl (Txt.isdigit a)) H
def tBmZ (K : PySem.W.Frag) (b : Bm) (to : TE) (t : TA) : TE := fun σ H Q => to σ H fun x H1 => tyB K b x H1 ∧ t σ H1 fun xs H2 => rM K b x xs H2 Q
section
variable {X : Cx} {o e f : Expr} {es : List Expr} {to te tf : TE} {t : TA} {apos cpos : Pos}
theorem zm_append (ho : PE X o to) (ha : PA X (e :: es) t)
    (hbase : attributeBase o "append" X.env (eval o X.env) = eval o X.env := by rfl)
    (hfew : ((backTo cpos (starEach (e :: es) X.env)).all (fun x => !x.1) && (backToKw cpos (keywordEach [] X.env)).all (fun x => x.1.isSome) && decide ((e :: es).length + ([] : List Keyword).length + (if ([] : List Keyword).isEmpty then 0 else 1) < 30)) = true := by rfl)
    (hline : (apos.endLine == cpos.line) = true := by rfl) (hs : starEach (e :: es) X.env = (false, eval e X.env) :: starEach es X.env := by rfl) (hplain : (backTo cpos (starEach es X.env)).any (·.1) = false := by rfl) :
    PE X (.Call (.Attribute o "append" apos) (e :: es) [] cpos) (tBmZ X.K .append to t) :=
  pe_bm PySem.F.plainAttrs_list PySem.F.slot_list_append PySem.F.type_list_append mt_append ho ha hbase hfew hline hs hplain
theorem zm_pop (ho : PE X o to) (hbase : attributeBase o "pop" X.env (eval o X.env) = eval o X.env := by rfl) (hline : (apos.endLine == cpos.line) = true := by rfl) :
    PE X (.Call (.Attribute o "pop" apos) [] [] cpos) (tBmZ X.K .pop to tNil) :=
  pe_bm0 PySem.F.plainAttrs_list PySem.F.slot_list_pop PySem.F.type_list_pop mt_pop ho hbase hline
def up (t : TE) : TE := fun σ H Q => ∃ R : VK, t σ H R ∧ ∀ x H', R x H' → Q x H'
theorem pe_up {X : Cx} {e : Expr} {t : TE} (h : PE X e t) : PE X e (up t) := by
  refine ⟨fun pins s σ H Q I q => ?_⟩
  obtain ⟨R, q, m⟩ := q
  exact thn (h.run pins s σ H R I q) fun u s1 ⟨x, H1, I1, r1, q1⟩ => ⟨x, H1, I1, r1, m x H1 q1⟩
theorem zm_get2 (hu : X.A.units + 64 < cLine) (ho : PE X o to) (he : PE X e te) (hf : PE X f tf) (m : M2 X o "get" apos e f cpos := by exact ⟨rfl, rfl, rfl, rfl⟩) : PE X (.Call (.Attribute o "get" apos) [e, f] [] cpos) (tBmZ X.K .get2 to (tCons te (tCons tf tNil))) := by
  refine pe_imp (pe_dget2 (by omega) (pe_up ho) (pe_up he) (pe_up hf) m) fun σ H Q h => ?_
  refine ⟨_, h, fun x H1 q => ?_⟩
  obtain ⟨⟨a, ex, d⟩, q⟩ := q
  refine ⟨a, ex, d, _, q, fun y H2 w => ?_⟩
  refine ⟨_, w, fun z H3 w => ?_⟩
  obtain ⟨a', k, z', o, e1, e2, g, w⟩ := w
  subst ex
  cases e1
  cases e2
  exact ⟨o, g, w⟩
theorem zm_dpop (ho : PE X o to) (he : PE X e te) (m : M1 X o "pop" apos e cpos := by exact ⟨rfl, rfl, rfl, rfl⟩) : PE X (.Call (.Attribute o "pop" apos) [e] [] cpos) (tBmZ X.K .dpop to (tCons te tNil)) := by
  refine pe_imp (pe_dpop1 (pe_up ho) (pe_up he) m) fun σ H Q h => ?_
  refine ⟨_, h, fun x H1 q => ?_⟩
  obtain ⟨⟨a, ex, d⟩, q⟩ := q
  refine ⟨a, ex, d, _, q, fun y H2 w => ?_⟩
  obtain ⟨a', kvs, k, v, e1, e2, g, hv, w⟩ := w
  subst ex
  cases e1
  cases e2
  exact ⟨kvs, k, v, g, rfl, hv, w⟩
end

section
variable {κ : Type} [DecidableEq κ] {K : PySem.W.Frag} {r : Rho} {n : Nat} {H : Hp}
theorem repK_drop (k : κ) : ∀ {kvs : List (κ × D)} {ws : List (κ × V)}, RepK K r n H ws kvs → RepK K r n H (dropK ws k) (kdrop kvs k)
  | [], [], _ => ⟨rfl, .nil⟩
  | [], w :: ws, q => nomatch q.1
  | p :: kvs, [], q => nomatch q.1
  | p :: kvs, w :: ws, q => by
    obtain ⟨q1, q2⟩ := q
    simp only [List.map_cons, List.cons.injEq] at q1
    simp only [List.map_cons] at q2
    cases q2 with
    | cons a b =>
      have ih := repK_drop k (kvs := kvs) (ws := ws) ⟨q1.2, b⟩
      unfold dropK kdrop at ih ⊢
      by_cases hk : p.1 = k
      · have hw : w.1 = k := q1.1.trans hk
        rw [List.filter_cons_of_neg (by simp [hk, hw]), List.filter_cons_of_neg (by simp [hk, hw])]
        exact ih
      · have hw : ¬ w.1 = k := fun z => hk (q1.1.symm.trans z)
        rw [List.filter_cons_of_pos (by simp [hk, hw]), List.filter_cons_of_pos (by simp [hk, hw])]
        refine ⟨?_, ?_⟩
        · simp only [List.map_cons, q1.1, ih.1]
        · simp only [List.map_cons]
          exact .cons a ih.2
theorem any_key (k : κ) : ∀ {kvs : List (κ × D)} {ws : List (κ × V)}, ws.map (·.1) = kvs.map (·.1) → (ws.any fun kv => decide (kv.1 = k)) = kvs.any fun kv => decide (kv.1 = k)
  | [], [], _ => rfl
  | [], w :: ws, q => nomatch q
  | p :: kvs, [], q => nomatch q
  | p :: kvs, w :: ws, q => by
    simp only [List.map_cons, List.cons.injEq] at q
    rw [List.any_cons, List.any_cons, any_key k q.2, q.1]
theorem repK_map {v : V} {d : D} (k : κ) (a : RepV K r n H v d) : ∀ {kvs : List (κ × D)} {ws : List (κ × V)}, RepK K r n H ws kvs →
    RepK K r n H (ws.map (fun kv => if kv.1 = k then (kv.1, v) else kv)) (kvs.map (fun kv => if kv.1 = k then (kv.1, d) else kv))
  | [], [], _ => ⟨rfl, .nil⟩
  | [], w :: ws, q => nomatch q.1
  | p :: kvs, [], q => nomatch q.1
  | p :: kvs, w :: ws, q => by
    obtain ⟨q1, q2⟩ := q
    simp only [List.map_cons, List.cons.injEq] at q1
    simp only [List.map_cons] at q2
    cases q2 with
    | cons b c =>
      have ih := repK_map k a (kvs := kvs) (ws := ws) ⟨q1.2, c⟩
      by_cases hk : p.1 = k
      · have hw : w.1 = k := q1.1.trans hk
        refine ⟨?_, ?_⟩
        · simp only [List.map_cons, if_pos hk, if_pos hw, q1.1]
          exact congrArg _ ih.1
        · simp only [List.map_cons, if_pos hk, if_pos hw]
          exact .cons a ih.2
      · have hw : ¬ w.1 = k := fun z => hk (q1.1.symm.trans z)
        refine ⟨?_, ?_⟩
        · simp only [List.map_cons, if_neg hk, if_neg hw, q1.1]
          exact congrArg _ ih.1
        · simp only [List.map_cons, if_neg hk, if_neg hw]
          exact .cons b ih.2
theorem repK_put {v : V} {d : D} (k : κ) (a : RepV K r n H v d) {kvs : List (κ × D)} {ws : List (κ × V)} (q : RepK K r n H ws kvs) : RepK K r n H (putK ws k v) (kput kvs k d) := by
  unfold putK kput
  rw [any_key k q.1]
  split
  · exact repK_map k a q
  · refine ⟨?_, ?_⟩
    · rw [List.map_append, List.map_append, q.1]
      rfl
    · rw [List.map_append, List.map_append]
      exact q.2.append1 a
end

section
variable {K : PySem.W.Frag} {W : XK} {r : Rho} {h h' : Hm} {H : Hp} {Q : VK} {res : Except String D} {v w : V} {x y : D} {vs : List V} {ds : List D}
theorem s_rcv {b : Bm} (S : Sim K r h H) (rv : RepV K r h.next H v x) (e : rcv b x h = true) : tyB K b v H := by
  have lst : (lstOf x h).isSome = true → tyV K "list" v H := fun e => by
    obtain ⟨xs, e1⟩ := Option.isSome_iff_exists.mp e
    obtain ⟨p, us, ev, e2, _⟩ := lstOf_of S rv e1
    subst ev
    exact .inl ⟨rfl, us, e2⟩
  have dic : rcv.isDic x h = true → ∃ a, v = .ref a ∧ IsD H a := fun e => by
    unfold rcv.isDic at e
    cases rv with
    | @ref a la =>
      simp only at e
      split at e
      · rename_i kvs ha
        obtain ⟨ws, h1, _⟩ := (S.obj a _ ha).2
        exact ⟨_, rfl, .inl ⟨ws, .inl h1⟩⟩
      · rename_i kvs ha
        obtain ⟨ob, ws, h1, _⟩ := (S.obj a _ ha).2
        exact ⟨_, rfl, .inl ⟨ws, .inr ⟨ob, h1⟩⟩⟩
      · cases e
    | _ => cases e
  cases b with
  | append => exact lst e
  | pop => exact lst e
  | insert => exact lst e
  | clear => exact lst e
  | index => exact lst e
  | get => exact dic e
  | get2 => exact dic e
  | dpop => exact dic e
  | _ => cases rv <;> first | exact ⟨_, rfl⟩ | cases e
theorem s_put {a : Nat} {o0 o : O} {u : HO} {d : D} {z : V} (S : Sim K r h H) (ha : h.get a = some o0) (m0 : mutO o0 = true) (q : RepV K r h.next H z d) (p : PG K W r h H (RepV K) Q (.ok d) (h.put a o)) (m : mutO o = true)
    (w : ∀ H', Ext K r h.next H r h.next H' → H' (r a) = some u → RepO K r h.next H' (r a) o) : Q z (upd H (r a) u) := by
  have x := (S.free ha m0).ext (K := K) (r := r) (n := h.next) (u := u)
  have S1 : Sim K r (h.put a o) (upd H (r a) u) := S.put ha m0 (own_of m) (w _ x upd_same)
  exact p z r _ S1 x (q.ext x)
theorem s_bm {b : Bm} (S : Sim K r h H) (rv : RepV K r h.next H v x) (q : RepL K r h.next H vs ds) (e : bmD b x ds h = some (res, h')) (p : PG K W r h H (RepV K) Q res h') : rM K b v vs H Q := by
  cases b with
  | append =>
    simp only [bmD] at e
    split at e
    · rename_i a d
      obtain ⟨w, rfl, q1⟩ := one_of q
      split at e
      · rename_i xs ha
        split at e
        · rename_i hl
          cases e
          obtain ⟨us, h1, q2⟩ := (S.obj a _ ha).2
          cases rv
          refine ⟨_, us, w, rfl, rfl, h1, by rw [q2.len]; exact lim_lt hl, ?_⟩
          exact s_put S ha rfl .non p rfl fun H' x h2 => ⟨_, h2, (q2.ext x).append1 (q1.ext x)⟩
        · cases e
      · cases e
    · cases e
  | pop =>
    simp only [bmD] at e
    split at e
    · rename_i a
      split at e
      · rename_i xs ha
        split at e
        · rename_i y hy
          cases e
          obtain ⟨us, h1, q2⟩ := (S.obj a _ ha).2
          cases q
          cases rv
          have hy2 : xs[xs.length - 1]? = some y := by rw [← List.getLast?_eq_getElem?]; exact hy
          obtain ⟨u, e1, q3⟩ := q2.get hy2
          rw [← q2.len] at e1
          refine ⟨_, us, u, rfl, rfl, h1, e1, ?_⟩
          refine s_put S ha rfl q3 p rfl fun H' x h2 => ⟨_, h2, ?_⟩
          rw [List.dropLast_eq_take, List.dropLast_eq_take, q2.len]
          exact (q2.ext x).take _
        · cases e
      · cases e
    · cases e
  | get =>
    simp only [bmD] at e
    split at e
    · rename_i a k
      obtain ⟨w, rfl, q1⟩ := one_of q
      cases rv
      split at e
      · rename_i d hd
        cases e
        obtain ⟨u, g, g1, g2⟩ := dget_of S q1 hd
        obtain ⟨z, ez, qz⟩ := g1 _ rfl
        subst ez
        exact ⟨_, w, _, rfl, rfl, g, s_plain S qz p⟩
      · rename_i hd
        cases e
        obtain ⟨u, g, g1, g2⟩ := dget_of S q1 hd
        rw [g2 rfl] at g
        exact ⟨_, w, _, rfl, rfl, g, s_plain S .non p⟩
      · cases e
    · cases e
  | get2 =>
    simp only [bmD] at e
    split at e
    · rename_i a k y
      obtain ⟨w, z0, rfl, q1, q2⟩ := two_of q
      cases rv
      split at e
      · rename_i d hd
        cases e
        obtain ⟨u, g, g1, g2⟩ := dget_of S q1 hd
        obtain ⟨z, ez, qz⟩ := g1 _ rfl
        subst ez
        exact ⟨_, w, z0, _, rfl, rfl, g, s_plain S qz p⟩
      · rename_i hd
        cases e
        obtain ⟨u, g, g1, g2⟩ := dget_of S q1 hd
        rw [g2 rfl] at g
        exact ⟨_, w, z0, _, rfl, rfl, g, s_plain S q2 p⟩
      · cases e
    · cases e
  | dpop =>
    simp only [bmD] at e
    split at e
    · rename_i a k
      obtain ⟨w, rfl, q1⟩ := one_of q
      split at e
      · rename_i kvs ha
        split at e
        · rename_i kq hk
          split at e
          · rename_i d hd
            cases e
            obtain ⟨ws, h1, q2⟩ := (S.obj a _ ha).2
            cases rv
            obtain ⟨z, e1, q3⟩ := (repK_get kq q2).1 _ hd
            rw [key_of q1 hk]
            refine ⟨_, ws, kq, z, rfl, rfl, h1, e1, ?_⟩
            exact s_put S ha rfl q3 p rfl fun H' x h2 => ⟨_, h2, RepK.ext x (repK_drop kq q2)⟩
          · cases e
        · cases e
      · cases e
    · cases e
  | join =>
    simp only [bmD] at e
    split at e
    · rename_i z y
      obtain ⟨w, rfl, q1⟩ := one_of q
      cases rv
      split at e
      · rename_i xs hx
        split at e
        · rename_i ys hy
          split at e
          · rename_i hl
            cases e
            obtain ⟨pp, us, e1, e2, e3⟩ := seqOf_of S q1 hx
            subst e1
            rw [e3.strs hy] at e2
            exact ⟨z, pp, ys, rfl, rfl, e2, hl, s_plain S (.str _) p⟩
          · cases e
        · cases e
      · cases e
    · cases e
  | split =>
    simp only [bmD] at e
    split at e
    · rename_i z y
      obtain ⟨w, rfl, q1⟩ := one_of q
      cases rv
      cases q1
      split at e
      · rename_i hl
        cases e
        refine ⟨z, y, rfl, rfl, hl.1, ?_, s_newlist S (repStrs _) p⟩
        have := hl.2
        unfold lim at this
        rw [sizeLine_eq]
        omega
      · cases e
    · cases e
  | partition =>
    simp only [bmD] at e
    split at e
    · rename_i z y
      obtain ⟨w, rfl, q1⟩ := one_of q
      cases rv
      cases q1
      split at e
      · rename_i hl
        cases e
        exact ⟨z, y, rfl, rfl, hl.1, lim_le hl.2, s_newtup S (.cons (.str _) (.cons (.str _) (.cons (.str _) .nil))) p⟩
      · cases e
    · cases e
  | index =>
    simp only [bmD] at e
    split at e
    · rename_i y
      obtain ⟨w, rfl, q1⟩ := one_of q
      split at e
      · rename_i xs hx
        split at e
        · rename_i hf
          split at e
          · rename_i j hj
            cases e
            obtain ⟨pp, us, e1, e2, e3⟩ := lstOf_of S rv hx
            subst e1
            have key : ∀ (xs : List D) (us : List V) (j : Nat), RepL K r h.next H us xs → xs.all flatD = true → whereL y xs = some j →
                ∃ z, us[j]? = some z ∧ eqV z w = true ∧ ∀ (m : Nat) (z' : V), m < j → us[m]? = some z' → eqV z' w = false := by
              intro xs
              induction xs with
              | nil => intro us j _ _ e; cases e
              | cons x xs ih =>
                intro us j q f e
                cases q with
                | cons a b =>
                  rw [List.all_cons, Bool.and_eq_true_iff] at f
                  unfold whereL at e
                  by_cases hx : eqF x y = true
                  · rw [if_pos hx] at e
                    cases e
                    exact ⟨_, rfl, by rw [eqF_of a q1 f.1 hf.1]; exact hx, fun m _ hm => absurd hm (Nat.not_lt_zero _)⟩
                  · rw [if_neg hx] at e
                    obtain ⟨i, e1, e2⟩ := Option.map_eq_some_iff.mp e
                    subst e2
                    obtain ⟨z, k1, k2, k3⟩ := ih _ i b f.2 e1
                    refine ⟨z, k1, k2, fun m z' hm hz => ?_⟩
                    cases m with
                    | zero =>
                      cases hz
                      rw [eqF_of a q1 f.1 hf.1]
                      exact Bool.eq_false_iff.mpr hx
                    | succ m => exact k3 m z' (by omega) hz
            obtain ⟨z, k1, k2, k3⟩ := key xs us j e3 hf.2 hj
            exact ⟨pp, us, w, j, z, rfl, rfl, e2, flat_of q1 hf.1, flatL_of e3 hf.2, k1, k2, k3, s_plain S (.int _) p⟩
          · cases e
        · cases e
      · cases e
    · cases e
  | insert =>
    simp only [bmD] at e
    split at e
    · rename_i a i d
      obtain ⟨w0, w, rfl, q0, q1⟩ := two_of q
      split at e
      · rename_i xs ha
        split at e
        · rename_i hl
          cases e
          obtain ⟨us, h1, q2⟩ := (S.obj a _ ha).2
          cases rv
          cases q0
          refine ⟨_, us, i, w, rfl, rfl, h1, by rw [q2.len]; exact lim_lt hl.1, hl.2.1, by omega, ?_⟩
          exact s_put S ha rfl .non p rfl fun H' x h2 => ⟨_, h2, (((q2.ext x).take _).append1 (q1.ext x)).app ((q2.ext x).drop _)⟩
        · cases e
      · cases e
    · cases e
  | clear =>
    simp only [bmD] at e
    split at e
    · rename_i a
      split at e
      · rename_i xs ha
        cases e
        obtain ⟨us, h1, q2⟩ := (S.obj a _ ha).2
        cases rv
        cases q
        exact ⟨_, us, rfl, rfl, h1, s_put S ha rfl .non p rfl fun H' x h2 => ⟨_, h2, .nil⟩⟩
      · cases e
    · cases e
  | find =>
    simp only [bmD] at e
    split at e
    · obtain ⟨w, rfl, q1⟩ := one_of q
      cases rv
      cases q1
      cases e
      exact ⟨_, _, rfl, rfl, s_plain S (.int _) p⟩
    · cases e
  | isdigit =>
    simp only [bmD] at e
    split at e
    · cases q
      cases rv
      cases e
      exact ⟨_, rfl, rfl, trivial, s_plain S (.bl _) p⟩
    · cases e
end
end Z

set_option maxRecDepth 100000
set_option maxHeartbeats 1000000
namespace Z
open PySem L2

theorem ofString_inj {a b : String} (h : Str.ofString a = Str.ofString b) : a = b := by
  rw [Str.ofString_eq_toList, Str.ofString_eq_toList] at h
  have h1 : a.toList.map Char.toNat = b.toList.map Char.toNat := by
    have := congrArg (fun s : Str => s.cps.toList) h
    simpa using this
  have h2 : a.toList = b.toList := (List.map_inj_right (f := Char.toNat) fun x y e => Char.toNat_inj.mp e).mp h1
  rw [← String.ofList_toList (s := a), h2, String.ofList_toList]
section
variable {K : PySem.W.Frag} {r : Rho} {n : Nat} {H : Hp}
theorem repF_get {f : String} {d : D} : ∀ {fs : List (String × D)} {ws : List (Str × V)}, RepF K r n H ws fs → fs.lookup f = some d → ∃ v, ws.lookup (Str.ofString f) = some v ∧ RepV K r n H v d
  | [], [], _, e => by cases e
  | [], w :: ws, q, _ => nomatch q.1
  | p :: fs, [], q, _ => nomatch q.1
  | (g, d0) :: fs, (gw, v0) :: ws, q, e => by
    obtain ⟨q1, q2⟩ := q
    simp only [List.map_cons, List.cons.injEq] at q1
    simp only [List.map_cons] at q2
    cases q2 with
    | cons a b =>
      rw [q1.1]
      by_cases hg : f = g
      · subst hg
        simp only [List.lookup_cons, beq_self_eq_true] at e ⊢
        cases e
        exact ⟨_, rfl, a⟩
      · have h1 : (f == g) = false := beq_eq_false_iff_ne.mpr hg
        have h2 : (Str.ofString f == Str.ofString g) = false := beq_eq_false_iff_ne.mpr fun z => hg (ofString_inj z)
        simp only [List.lookup_cons, h1, h2] at e ⊢
        exact repF_get ⟨q1.2, b⟩ e
theorem repF_none {f : String} : ∀ {fs : List (String × D)} {ws : List (Str × V)}, RepF K r n H ws fs → fs.lookup f = none → ws.lookup (Str.ofString f) = none
  | [], [], _, e => rfl
  | [], w :: ws, q, _ => nomatch q.1
  | p :: fs, [], q, _ => nomatch q.1
  | (g, d0) :: fs, (gw, v0) :: ws, q, e => by
    obtain ⟨q1, q2⟩ := q
    simp only [List.map_cons, List.cons.injEq] at q1
    simp only [List.map_cons] at q2
    cases q2 with
    | cons a b =>
      rw [q1.1]
      by_cases hg : f = g
      · subst hg
        simp only [List.lookup_cons, beq_self_eq_true] at e
        cases e
      · have h1 : (f == g) = false := beq_eq_false_iff_ne.mpr hg
        have h2 : (Str.ofString f == Str.ofString g) = false := beq_eq_false_iff_ne.mpr fun z => hg (ofString_inj z)
        simp only [List.lookup_cons, h1, h2] at e ⊢
        exact repF_none ⟨q1.2, b⟩ e
theorem repF_put {f : String} {d : D} {v : V} (a : RepV K r n H v d) : ∀ {fs : List (String × D)} {ws : List (Str × V)}, RepF K r n H ws fs → RepF K r n H (putF (Str.ofString f) v ws) (setF fs f d)
  | [], [], _ => ⟨rfl, .cons a .nil⟩
  | [], w :: ws, q => nomatch q.1
  | p :: fs, [], q => nomatch q.1
  | (g, d0) :: fs, (gw, v0) :: ws, q => by
    obtain ⟨q1, q2⟩ := q
    simp only [List.map_cons, List.cons.injEq] at q1
    simp only [List.map_cons] at q2
    cases q2 with
    | cons b c =>
      obtain ⟨rfl, q1⟩ := q1
      unfold putF setF
      by_cases hg : g = f
      · subst hg
        rw [if_pos rfl, if_pos rfl]
        exact ⟨by simp only [List.map_cons, q1], .cons a c⟩
      · rw [if_neg hg, if_neg fun z => hg (ofString_inj z)]
        have ih := repF_put (f := f) a (fs := fs) (ws := ws) ⟨q1, c⟩
        exact ⟨by simp only [List.map_cons, ih.1], .cons b ih.2⟩
theorem repF_len {fs : List (String × D)} {ws : List (Str × V)} (q : RepF K r n H ws fs) : ws.length = fs.length := by simpa using congrArg List.length q.1
end

def gsR : List Nat → TGs
  | [] => gNil
  | i :: is => gCons (gName i) (gsR is)
def rdG (K : PySem.W.Frag) : Tg → TG
  | .name i => gName i
  | .tup is => gTup K is.length (gsR is)
def Tg.is (g : Tg) : List Nat := match g with
  | .name i => [i]
  | .tup is => is
def Apart (is : List Nat) (σ σ' : L2.St) : Prop := ∀ vs, (∀ i ∈ is, i ∈ vs) → wipe σ' vs = wipe σ vs
theorem wipe_comm_set (σ : L2.St) (x : Option V) (j : Nat) : ∀ vs : List Nat, j ∉ vs → wipe (σ.set j x) vs = (wipe σ vs).set j x
  | [], _ => rfl
  | v :: vs, h => by
    show (wipe (σ.set j x) vs).set v none = ((wipe σ vs).set v none).set j x
    rw [wipe_comm_set σ x j vs fun z => h (List.mem_cons_of_mem _ z), List.set_comm _ _ fun e => h (by rw [e]; exact List.mem_cons_self)]
theorem wipe_set {σ : L2.St} {j : Nat} {x : Option V} : ∀ {vs : List Nat}, j ∈ vs → wipe (σ.set j x) vs = wipe σ vs
  | v :: vs, h => by
    show (wipe (σ.set j x) vs).set v none = (wipe σ vs).set v none
    by_cases hj : j ∈ vs
    · rw [wipe_set hj]
    · have : j = v := by
        rcases List.mem_cons.mp h with e | e
        · exact e
        · exact absurd e hj
      subst this
      rw [wipe_comm_set σ x j vs hj, List.set_set]
theorem wipe_none {σ : L2.St} {j : Nat} : ∀ {vs : List Nat}, j ∈ vs → (wipe σ vs).set j none = wipe σ vs
  | v :: vs, h => by
    show ((wipe σ vs).set v none).set j none = (wipe σ vs).set v none
    by_cases hj : j = v
    · subst hj; rw [List.set_set]
    · rcases List.mem_cons.mp h with e | e
      · exact absurd e hj
      · rw [List.set_comm _ _ (Ne.symm hj), wipe_none e]
theorem wipe_sub {σ : L2.St} : ∀ {us vs : List Nat}, (∀ i ∈ us, i ∈ vs) → wipe (wipe σ vs) us = wipe σ vs
  | [], _, _ => rfl
  | u :: us, vs, h => by
    show (wipe (wipe σ vs) us).set u none = wipe σ vs
    rw [wipe_sub fun i hi => h i (List.mem_cons_of_mem _ hi), wipe_none (h u List.mem_cons_self)]
theorem wipe_wipe {σ : L2.St} {vs : List Nat} : wipe (wipe σ vs) vs = wipe σ vs := wipe_sub fun _ h => h

section
variable {K : PySem.W.Frag} {r : Rho} {n : Nat} {H : Hp} {σ : L2.St} {env env1 : Env}
theorem s_gs : ∀ {is : List Nat} {vs : List V} {ds : List D} {σ : L2.St} {env : Env} {Q : L2.St → Hp → Prop}, RepL K r n H vs ds → EnvR K r n H σ env → setN env is ds = some env1 →
    (∀ σ1, EnvR K r n H σ1 env1 → Apart is σ σ1 → Q σ1 H) → gsR is vs σ H Q
  | [], _, _, σ, env, Q, .nil, e, h, k => by cases h; exact ⟨rfl, k σ e fun _ _ => rfl⟩
  | [], _, _, σ, env, Q, .cons a b, e, h, k => by cases h
  | i :: is, _, _, σ, env, Q, .nil, e, h, k => by cases h
  | i :: is, _, _, σ, env, Q, .cons (v := v) (vs := vs) a b, e, h, k => by
    refine ⟨v, vs, rfl, ?_⟩
    refine s_gs b (e.set i a) h fun σ1 e1 ap => k σ1 e1 fun ws hw => ?_
    rw [ap ws fun j hj => hw j (List.mem_cons_of_mem _ hj), wipe_set (hw i List.mem_cons_self)]
theorem gsR_len : ∀ (is : List Nat) (ds : List D) (env : Env), setN env is ds = some env1 → ds.length = is.length
  | [], [], _, _ => rfl
  | [], _ :: _, _, h => by cases h
  | _ :: _, [], _, h => by cases h
  | i :: is, d :: ds, _, h => congrArg Nat.succ (gsR_len is ds _ h)
theorem s_g {g : Tg} {v : V} {d : D} {Q : L2.St → Hp → Prop} (a : RepV K r n H v d) (e : EnvR K r n H σ env) (h : asgT g d env = some env1)
    (k : ∀ σ1, EnvR K r n H σ1 env1 → Apart g.is σ σ1 → Q σ1 H) : rdG K g v σ H Q := by
  cases g with
  | name i =>
    cases h
    exact k _ (e.set i a) fun vs hv => wipe_set (hv i List.mem_cons_self)
  | tup is =>
    cases a with
    | @tup p vs ds hT q =>
      have hl := gsR_len is ds env h
      exact ⟨p, vs, rfl, hT, by rw [q.len]; exact hl, s_gs q e h k⟩
    | _ => cases h
end

theorem kitAll (a b : String) (ha : a ∈ ["NoneType", "bool", "int", "str", "tuple", "list", "dict"]) (hb : b ∈ ["int", "bool", "str", "tuple", "list", "dict"]) : kitB a b = some (a == b || (a == "bool" && b == "int")) := by
  have h : (["NoneType", "bool", "int", "str", "tuple", "list", "dict"].all fun a => ["int", "bool", "str", "tuple", "list", "dict"].all fun b => decide (kitB a b = some (a == b || (a == "bool" && b == "int")))) = true := by decide +kernel
  exact of_decide_eq_true (List.all_eq_true.mp (List.all_eq_true.mp h a ha) b hb)
theorem nm_mem (t : Tn) : t.nm ∈ ["int", "bool", "str", "tuple", "list", "dict"] := by cases t <;> decide
theorem ty_of {K : PySem.W.Frag} {r : Rho} {h : Hm} {H : Hp} {v : V} {x : D} {a : String} (S : Sim K r h H) (rv : RepV K r h.next H v x) (e : tyN x h = some a) : TyX K H v (.type a) ∧ a ∈ ["NoneType", "bool", "int", "str", "tuple", "list", "dict"] := by
  cases rv with
  | non => cases e; exact ⟨.base .non, by decide⟩
  | exc k a => cases e
  | xob k h z f => cases e
  | bl b => cases e; exact ⟨.base (.bl b), by decide⟩
  | int b => cases e; exact ⟨.base (.int b), by decide⟩
  | str b => cases e; exact ⟨.base (.str b), by decide⟩
  | tup hT q =>
    cases e
    refine ⟨?_, by decide⟩
    rcases hT with (hT | ⟨o, hT⟩) | ⟨o, its, n, h1, h2, _⟩
    · exact .base (.tup hT)
    · exact .fTuple hT
    · exact .kTuple h1 h2
  | @ref p lp =>
    simp only [tyN] at e
    split at e
    · rename_i xs hp
      cases e
      obtain ⟨vs, h1, _⟩ := (S.obj p _ hp).2
      exact ⟨.base (.lst h1), by decide⟩
    · rename_i xs hp
      cases e
      obtain ⟨vs, h1, _⟩ := (S.obj p _ hp).2
      refine ⟨?_, by decide⟩
      rcases h1 with ⟨o, h1⟩ | ⟨o, its, n, h1, h2, _⟩
      · exact .base (.frz h1)
      · exact .kList h1 h2
    · rename_i xs hp
      cases e
      obtain ⟨vs, h1, _⟩ := (S.obj p _ hp).2
      exact ⟨.base (.dK h1), by decide⟩
    · cases e

def rIt (K : PySem.W.Frag) : ItK → List V → Hp → (It → Hp → Prop) → Prop
  | .seq => fun vs H R => ∃ x, vs = [x] ∧ ((∃ a, x = .ref a ∧ (∃ xs, SqL K H a xs) ∧ R (Itl K a) H) ∨ (∃ a, x = .ref a ∧ (∃ xs, SqT K H a xs) ∧ R (Itt K a) H) ∨ ∃ z, x = .str z ∧ R (Its z) H)
  | .range1 => fun vs H R => ∃ j : Int, vs = [.int j] ∧ -(2 ^ 62) ≤ j ∧ j < 2 ^ 62 ∧ R (Itr 0 j.toNat) H
  | .range2 => fun vs H R => ∃ i j : Int, vs = [.int i, .int j] ∧ (-(2 ^ 62) ≤ i ∧ i < 2 ^ 62 ∧ -(2 ^ 62) ≤ j ∧ j < 2 ^ 62) ∧ R (Itr i (j - i).toNat) H
  | .range3 => fun vs H R => ∃ (i j c : Int) (n : Nat), vs = [.int i, .int j, .int c] ∧ RgC i j c n ∧ R (Itc i c n) H
  | .rev => fun vs H R => match vs with
    | [v] => ∃ (a : Addr) (xs : List V), v = .ref a ∧ ((SqL K H a xs ∧ R (Itv K a xs.length) H) ∨ (SqT K H a xs ∧ R (RT.ItvT K a xs.length) H))
    | _ => False
  | .keys => fun vs H R => match vs with
    | [v] => ∃ (d : Addr) (o : Obj), v = .ref d ∧ ((∃ kvs, H d = some (.frz o (.dK kvs)) ∧ R (Itk d o kvs) H) ∨ ∃ kvs, H d = some (.frz o (.dT kvs)) ∧ R (Itkt d o kvs) H)
    | _ => False
  | .vals => fun vs H R => match vs with
    | [v] => ∃ (d : Addr) (o : Obj) (kvs : List (Key × V)), v = .ref d ∧ H d = some (.frz o (.dK kvs)) ∧ R (Itd d o kvs) H
    | _ => False
  | .items => fun vs H R => match vs with
    | [v] => ∃ (d : Addr) (o : Obj) (kvs : List (Key × V)), v = .ref d ∧ H d = some (.frz o (.dK kvs)) ∧ R (Iti d o kvs) H
    | _ => False
  | .enum => fun vs H R => ∃ a xs, vs = [.ref a] ∧ SqL K H a xs ∧ R (Ite K a) H
  | .zip => fun vs H R => ∃ a b xs ys, vs = [.ref a, .ref b] ∧ SqL K H a xs ∧ SqL K H b ys ∧ R (Itz K a b) H
def rdI (K : PySem.W.Frag) (k : ItK) (ta : TA) : TI := fun σ H R => ta σ H fun vs H1 => rIt K k vs H1 R
theorem pi_at {X : Cx} {tg : Expr} {pins : List (Addr × Obj)} {σ : L2.St} {H : Hp} {s : Shared} {R : It → Hp → Prop} {v : Value} {x : V} (I : Inv X pins σ H s) (rv : RelV x v)
    (q : (∃ a, x = .ref a ∧ (∃ xs, SqL X.K H a xs) ∧ R (Itl X.K a) H) ∨ (∃ a, x = .ref a ∧ (∃ xs, SqT X.K H a xs) ∧ R (Itt X.K a) H) ∨ ∃ z, x = .str z ∧ R (Its z) H) :
    wpAny (model X.prog X.w) X.A (pyIter v) (PIE X pins σ tg R) X.xe s := by
  rcases q with ⟨a, rfl, ⟨xs, hq⟩, q⟩ | ⟨a, rfl, ⟨xs, hq⟩, q⟩ | ⟨z, rfl, q⟩
  · cases rv
    obtain ⟨its, _, pl, _⟩ := I.list hq
    refine wpAny_pyIter_list pl.isList ⟨s.heap.objs.size, [s.heap.objs.size], _, _, H, rfl, I.kept (t' := s.toks) (fun b o e => Heap.get?_push_of_some _ e), turn_list a _, ⟨_, Heap.get?_push_size _ rfl, rfl, rfl⟩, fun b hb => ?_, q⟩
    cases List.mem_singleton.mp hb
    exact I.fpOk (Nat.le_refl _) (I.hok.fresh (Nat.le_refl _))
  · cases rv
    obtain ⟨its, _, pl, _⟩ := I.tuple hq
    refine wpAny_pyIter_tuple (items := its.toArray) pl ⟨s.heap.objs.size, [s.heap.objs.size], _, _, H, rfl, I.kept (t' := s.toks) (fun b o e => Heap.get?_push_of_some _ e), turn_tuple a _, ⟨_, Heap.get?_push_size _ rfl, rfl, rfl⟩, fun b hb => ?_, q⟩
    cases List.mem_singleton.mp hb
    exact I.fpOk (Nat.le_refl _) (I.hok.fresh (Nat.le_refl _))
  · obtain ⟨t, rfl⟩ := rv
    cases hw : z.cps.all (· < 128)
    · exact wpAny_pyIter_wide hw (pi_one (tk := s.toks) I _ (turn_str _ z t "str_iterator" (.inr rfl)) ⟨_, Heap.get?_push_size _ rfl, rfl, rfl⟩ q)
    · exact wpAny_pyIter_ascii hw (pi_one (tk := s.toks) I _ (turn_str _ z t "str_ascii_iterator" (.inl rfl)) ⟨_, Heap.get?_push_size _ rfl, rfl, rfl⟩ q)
theorem zi_seq {X : Cx} {tg e : Expr} {te : TE} (he : PE X e te) : PI X tg e (rdI X.K .seq (tCons te tNil)) := by
  refine ⟨fun pins s σ H R I h => thn (he.run pins s σ H _ I h) fun v s1 ⟨x, H1, I1, r1, q1⟩ => ?_⟩
  obtain ⟨y, e1, q⟩ := q1
  cases e1
  exact pi_at I1 r1 q
theorem zi_range1 {X : Cx} {tg a : Expr} {ta : TA} {p pos : Pos} (hg : Gl X "range") (hm : X.mg "range" = none) (ha : PA X [a] ta) (hs : starEach [a] X.env = [(false, eval a X.env)] := by rfl) : PI X tg (.Call (.Name "range" p) [a] [] pos) (rdI X.K .range1 ta) := pi_range1 hg hm ha hs
theorem small_c {a b c : Int} (hc : c = 2 ∨ c = 7) (ha : -(2 ^ 62) ≤ a) (ha' : a < 2 ^ 62) (hb : -(2 ^ 62) ≤ b) (hb' : b < 2 ^ 62) : Builtin.Range.small a b c = true := by
  unfold Builtin.Range.small Builtin.Range.rangeSize
  rcases hc with rfl | rfl
  · simp only [Builtin.Range.rangeFitsLong, Bool.and_eq_true, Bool.or_eq_true, decide_eq_true_eq, beq_iff_eq, show (2 : Int) > 0 by decide, if_true]
    split <;> omega
  · simp only [Builtin.Range.rangeFitsLong, Bool.and_eq_true, Bool.or_eq_true, decide_eq_true_eq, beq_iff_eq, show (7 : Int) > 0 by decide, if_true]
    split <;> omega
theorem rgc {a b c : Int} (hc : c = 2 ∨ c = 7) (ha : -(2 ^ 62) ≤ a) (ha' : a < 2 ^ 62) (hb : -(2 ^ 62) ≤ b) (hb' : b < 2 ^ 62) : RgC a b c (if a < b then (b - a - 1) / c + 1 else 0).toNat := by
  refine ⟨by omega, by omega, small_c hc ha ha' hb hb', ?_⟩
  unfold Builtin.Range.rangeSize
  rcases hc with rfl | rfl
  · rw [if_pos (by decide)]; split <;> omega
  · rw [if_pos (by decide)]; split <;> omega
theorem three_of {K : PySem.W.Frag} {r : Rho} {n : Nat} {H : Hp} {vs : List V} {a b c : D} (q : RepL K r n H vs [a, b, c]) : ∃ x y z, vs = [x, y, z] ∧ RepV K r n H x a ∧ RepV K r n H y b ∧ RepV K r n H z c := by
  cases q with
  | cons a q =>
    cases q with
    | cons b q =>
      cases q with
      | cons c q =>
        cases q
        exact ⟨_, _, _, rfl, a, b, c⟩
def Gives (K : PySem.W.Frag) (J : It) (items : List D) (gd : List (Nat × O)) (r1 : Rho) (n1 : Nat) (H1 : Hp) : Prop :=
  ∀ r h H, Sim K r h H → Ext K r1 n1 H1 r h.next H → stays gd h → ∀ i, (∀ d, items[i]? = some d → J.go i H ∧ ∀ x H', J.yld i H x H' → Sim K r h H' ∧ Ext K r h.next H r h.next H' ∧ RepV K r h.next H' x d) ∧ (items.length ≤ i → J.stop i H)
theorem gives_lst {K : PySem.W.Frag} {r1 : Rho} {h1 : Hm} {H1 : Hp} {a : Nat} {xs : List D} {o : O} (la : a < h1.next) (ho : o = .lst xs ∨ o = .fz xs) : Gives K (Itl K (r1 a)) xs [(a, o)] r1 h1.next H1 := by
  intro r h H S x st i
  have ha : h.get a = some o := st (a, o) (List.mem_singleton.mpr rfl)
  have er : r a = r1 a := x.at_ a la
  obtain ⟨vs, hs, q⟩ : ∃ vs, SqL K H (r1 a) vs ∧ RepL K r h.next H vs xs := by
    rcases ho with rfl | rfl
    · obtain ⟨vs, e1, q⟩ := (S.obj a _ ha).2
      rw [er] at e1
      exact ⟨vs, .inl (.inl e1), q⟩
    · obtain ⟨vs, e1, q⟩ := (S.obj a _ ha).2
      rw [er] at e1
      exact ⟨vs, e1.l, q⟩
  refine ⟨fun d hd => ?_, fun hl => ⟨vs, hs, by rw [q.len]; exact hl⟩⟩
  obtain ⟨v, ev, qv⟩ := q.get hd
  refine ⟨⟨vs, v, hs, ev⟩, fun y H' w => ?_⟩
  obtain ⟨rfl, w⟩ := w
  have := w vs hs
  rw [ev] at this
  cases this
  exact ⟨S, Ext.refl, qv⟩
theorem gives_tup {K : PySem.W.Frag} {r1 : Rho} {n1 : Nat} {H1 : Hp} {a : Addr} {xs : List D} {vs : List V} (hT : SqT K H1 a vs) (q1 : RepL K r1 n1 H1 vs xs) : Gives K (Itt K a) xs [] r1 n1 H1 := by
  intro r h H S x _ i
  have hs := x.tup _ _ hT
  have q := q1.ext x
  refine ⟨fun d hd => ?_, fun hl => ⟨vs, hs, by rw [q.len]; exact hl⟩⟩
  obtain ⟨v, ev, qv⟩ := q.get hd
  refine ⟨⟨vs, v, hs, ev⟩, fun y H' w => ?_⟩
  obtain ⟨rfl, w⟩ := w
  have := w vs hs
  rw [ev] at this
  cases this
  exact ⟨S, Ext.refl, qv⟩
theorem gives_rng {K : PySem.W.Frag} {r1 : Rho} {n1 : Nat} {H1 : Hp} {lo : Int} {m : Nat} {f : Nat → D} (hf : ∀ i : Nat, f i = .int (lo + i)) : Gives K (Itr lo m) ((List.range m).map f) [] r1 n1 H1 := by
  intro r h H S x _ i
  refine ⟨fun d hd => ?_, fun hl => (show m ≤ i by simpa using hl)⟩
  have hi : i < m := by simpa using (List.getElem?_eq_some_iff.mp hd).1
  rw [List.getElem?_map, List.getElem?_range hi] at hd
  cases hd
  refine ⟨hi, fun y H' w => ?_⟩
  obtain ⟨rfl, rfl⟩ := w
  rw [hf]
  exact ⟨S, Ext.refl, .int _⟩
theorem gives_rngC {K : PySem.W.Frag} {r1 : Rho} {n1 : Nat} {H1 : Hp} {lo c : Int} {m : Nat} : Gives K (Itc lo c m) ((List.range m).map fun (i : Nat) => .int (lo + (i : Int) * c)) [] r1 n1 H1 := by
  intro r h H S x _ i
  refine ⟨fun d hd => ?_, fun hl => (show m ≤ i by simpa using hl)⟩
  have hi : i < m := by simpa using (List.getElem?_eq_some_iff.mp hd).1
  rw [List.getElem?_map, List.getElem?_range hi] at hd
  cases hd
  refine ⟨hi, fun y H' w => ?_⟩
  obtain ⟨rfl, rfl⟩ := w
  exact ⟨S, Ext.refl, .int _⟩
theorem rev_at {α : Type} {xs : List α} {i : Nat} (hi : i < xs.length) : xs.reverse[i]? = xs[xs.length - 1 - i]? := List.getElem?_reverse hi
theorem gives_rev {K : PySem.W.Frag} {r1 : Rho} {h1 : Hm} {H1 : Hp} {a : Nat} {xs : List D} {o : O} {n : Nat} (la : a < h1.next) (ho : o = .lst xs ∨ o = .fz xs) (hn : n = xs.length) : Gives K (Itv K (r1 a) n) xs.reverse [(a, o)] r1 h1.next H1 := by
  intro r h H S x st i
  have ha : h.get a = some o := st (a, o) (List.mem_singleton.mpr rfl)
  have er : r a = r1 a := x.at_ a la
  obtain ⟨vs, hs, q⟩ : ∃ vs, SqL K H (r1 a) vs ∧ RepL K r h.next H vs xs := by
    rcases ho with rfl | rfl
    · obtain ⟨vs, e1, q⟩ := (S.obj a _ ha).2
      rw [er] at e1
      exact ⟨vs, .inl (.inl e1), q⟩
    · obtain ⟨vs, e1, q⟩ := (S.obj a _ ha).2
      rw [er] at e1
      exact ⟨vs, e1.l, q⟩
  refine ⟨fun d hd => ?_, fun hl => (show n ≤ i by rw [hn]; simpa using hl)⟩
  have hi : i < xs.length := by simpa using (List.getElem?_eq_some_iff.mp hd).1
  rw [rev_at hi] at hd
  obtain ⟨v, ev, qv⟩ := q.get hd
  refine ⟨⟨by omega, vs, v, hs, by rw [hn]; exact ev⟩, fun y H' w => ?_⟩
  obtain ⟨rfl, w⟩ := w
  have := w vs hs
  rw [hn, ev] at this
  cases this
  exact ⟨S, Ext.refl, qv⟩
theorem gives_revT {K : PySem.W.Frag} {r1 : Rho} {n1 : Nat} {H1 : Hp} {a : Addr} {xs : List D} {vs : List V} {n : Nat} (hT : SqT K H1 a vs) (q1 : RepL K r1 n1 H1 vs xs) (hn : n = xs.length) : Gives K (RT.ItvT K a n) xs.reverse [] r1 n1 H1 := by
  intro r h H S x _ i
  have hs := x.tup _ _ hT
  have q := q1.ext x
  refine ⟨fun d hd => ?_, fun hl => (show n ≤ i by rw [hn]; simpa using hl)⟩
  have hi : i < xs.length := by simpa using (List.getElem?_eq_some_iff.mp hd).1
  rw [rev_at hi] at hd
  obtain ⟨v, ev, qv⟩ := q.get hd
  refine ⟨⟨by omega, vs, v, hs, by rw [hn]; exact ev⟩, fun y H' w => ?_⟩
  obtain ⟨rfl, w⟩ := w
  have := w vs hs
  rw [hn, ev] at this
  cases this
  exact ⟨S, Ext.refl, qv⟩
theorem gives_str {K : PySem.W.Frag} {r1 : Rho} {n1 : Nat} {H1 : Hp} {z : Str} : Gives K (Its z) (z.cps.toList.map fun c => .str ⟨#[c]⟩) [] r1 n1 H1 := by
  intro r h H S x _ i
  refine ⟨fun d hd => ?_, fun hl => (show z.cps.size ≤ i by simpa using hl)⟩
  rw [List.getElem?_map] at hd
  obtain ⟨c, hc, e⟩ := Option.map_eq_some_iff.mp hd
  subst e
  have hc2 : z.cps[i]? = some c := by rw [← Array.getElem?_toList]; exact hc
  refine ⟨(Array.getElem?_eq_some_iff.mp hc2).1, fun y H' w => ?_⟩
  obtain ⟨rfl, c', e, rfl⟩ := w
  rw [hc2] at e
  cases e
  exact ⟨S, Ext.refl, .str _⟩
theorem gives_keys {K : PySem.W.Frag} {r1 : Rho} {n1 : Nat} {H1 : Hp} {d : Addr} {ob : Obj} {ws : List (Key × V)} {kvs : List (Key × D)} (hd : H1 d = some (.frz ob (.dK ws))) (q1 : RepK K r1 n1 H1 ws kvs) :
    Gives K (Itk d ob ws) (kvs.map fun kv => keyD kv.1) [] r1 n1 H1 := by
  intro r h H S x _ i
  have hd' := x.frz _ _ _ hd
  have q := RepK.ext x q1
  have el : ws.length = kvs.length := by simpa using congrArg List.length q.1
  refine ⟨fun y hy => ?_, fun hl => ⟨hd', by rw [el]; simpa using hl⟩⟩
  obtain ⟨v, ev, qv⟩ := (repKeys q).get hy
  rw [List.getElem?_map] at ev
  obtain ⟨kw, e1, e2⟩ := Option.map_eq_some_iff.mp ev
  refine ⟨⟨hd', (List.getElem?_eq_some_iff.mp e1).1⟩, fun z H' w => ?_⟩
  obtain ⟨rfl, k, v', e3, rfl⟩ := w
  rw [e1] at e3
  cases e3
  subst e2
  exact ⟨S, Ext.refl, qv⟩
theorem gives_keysT {K : PySem.W.Frag} {r1 : Rho} {n1 : Nat} {H1 : Hp} {d : Addr} {ob : Obj} {ws : List (List Key × V)} {kvs : List (List Key × D)} (hd : H1 d = some (.frz ob (.dT ws))) (q1 : RepK K r1 n1 H1 ws kvs) :
    Gives K (Itkt d ob ws) (kvs.map fun kv => .tup (kv.1.map keyD)) [] r1 n1 H1 := by
  intro r h H S x _ i
  have hd' := x.frz _ _ _ hd
  have el : ws.length = kvs.length := by simpa using congrArg List.length q1.1
  refine ⟨fun y hy => ?_, fun hl => ⟨hd', by rw [el]; simpa using hl⟩⟩
  rw [List.getElem?_map] at hy
  obtain ⟨kv, e1, e2⟩ := Option.map_eq_some_iff.mp hy
  have hi : i < kvs.length := (List.getElem?_eq_some_iff.mp e1).1
  have e5 : (ws.map (·.1))[i]? = some kv.1 := by rw [q1.1, List.getElem?_map, e1]; rfl
  refine ⟨⟨hd', by rw [el]; exact hi⟩, fun z H' w => ?_⟩
  obtain ⟨rfl, k, v', q, e3, rfl, e4⟩ := w
  rw [List.getElem?_map, e3] at e5
  cases e5
  subst e2
  exact ⟨S, Ext.refl, .tup (.inl (.inl e4)) (repKeyL _)⟩
theorem gives_vals {K : PySem.W.Frag} {r1 : Rho} {n1 : Nat} {H1 : Hp} {d : Addr} {ob : Obj} {ws : List (Key × V)} {kvs : List (Key × D)} (hd : H1 d = some (.frz ob (.dK ws))) (q1 : RepK K r1 n1 H1 ws kvs) :
    Gives K (Itd d ob ws) (kvs.map fun kv => kv.2) [] r1 n1 H1 := by
  intro r h H S x _ i
  have hd' := x.frz _ _ _ hd
  have q := RepK.ext x q1
  have el : ws.length = kvs.length := by simpa using congrArg List.length q.1
  refine ⟨fun y hy => ?_, fun hl => ⟨hd', by rw [el]; simpa using hl⟩⟩
  obtain ⟨v, ev, qv⟩ := q.2.get hy
  rw [List.getElem?_map] at ev
  obtain ⟨kw, e1, e2⟩ := Option.map_eq_some_iff.mp ev
  refine ⟨⟨hd', (List.getElem?_eq_some_iff.mp e1).1⟩, fun z H' w => ?_⟩
  obtain ⟨rfl, k, e3⟩ := w
  rw [e1] at e3
  cases e3
  subst e2
  exact ⟨S, Ext.refl, qv⟩
theorem gives_items {K : PySem.W.Frag} {r1 : Rho} {n1 : Nat} {H1 : Hp} {d : Addr} {ob : Obj} {ws : List (Key × V)} {kvs : List (Key × D)} (hd : H1 d = some (.frz ob (.dK ws))) (q1 : RepK K r1 n1 H1 ws kvs) :
    Gives K (Iti d ob ws) (kvs.map fun kv => .tup [keyD kv.1, kv.2]) [] r1 n1 H1 := by
  intro r h H S x _ i
  have hd' := x.frz _ _ _ hd
  have q := RepK.ext x q1
  have el : ws.length = kvs.length := by simpa using congrArg List.length q.1
  refine ⟨fun y hy => ?_, fun hl => ⟨hd', by rw [el]; simpa using hl⟩⟩
  rw [List.getElem?_map] at hy
  obtain ⟨kv, e1, e2⟩ := Option.map_eq_some_iff.mp hy
  have e6 : (kvs.map fun kv => kv.2)[i]? = some kv.2 := by rw [List.getElem?_map, e1]; rfl
  obtain ⟨v, ev, qv⟩ := q.2.get e6
  rw [List.getElem?_map] at ev
  obtain ⟨kw, e3, e4⟩ := Option.map_eq_some_iff.mp ev
  have e5 : (ws.map (·.1))[i]? = some kv.1 := by rw [q.1, List.getElem?_map, e1]; rfl
  rw [List.getElem?_map, e3] at e5
  refine ⟨⟨hd', (List.getElem?_eq_some_iff.mp e3).1⟩, fun z H' w => ?_⟩
  obtain ⟨T, k, v', e7, rfl, hT, rfl⟩ := w
  rw [e3] at e7
  cases e7
  cases e5
  subst e2 e4
  have xx := (Free.ext (K := K) (r := r) (n := h.next) (u := .tup [kV kv.1, v']) (.inl hT))
  exact ⟨S.grow hT, xx, .tup (.inl (.inl upd_same)) (.cons (repKey _) (.cons (qv.ext xx) .nil))⟩
theorem gives_zip {K : PySem.W.Frag} {r1 : Rho} {h1 : Hm} {H1 : Hp} {a b : Nat} {xs ys : List D} (la : a < h1.next) (lb : b < h1.next) :
    Gives K (Itz K (r1 a) (r1 b)) ((xs.zip ys).map fun p => D.tup [p.1, p.2]) [(a, .lst xs), (b, .lst ys)] r1 h1.next H1 := by
  intro r h H S x st i
  have ha : h.get a = some (.lst xs) := st (a, .lst xs) (by simp)
  have hb : h.get b = some (.lst ys) := st (b, .lst ys) (by simp)
  have era : r a = r1 a := x.at_ a la
  have erb : r b = r1 b := x.at_ b lb
  obtain ⟨vs, e1, q1⟩ := (S.obj a _ ha).2
  obtain ⟨ws, e2, q2⟩ := (S.obj b _ hb).2
  rw [era] at e1
  rw [erb] at e2
  have s1 : SqL K H (r1 a) vs := .inl (.inl e1)
  have s2 : SqL K H (r1 b) ws := .inl (.inl e2)
  refine ⟨fun d hd => ?_, fun hl => ⟨vs, ws, s1, s2, ?_⟩⟩
  · rw [List.getElem?_map] at hd
    obtain ⟨⟨dx, dy⟩, e3, e4⟩ := Option.map_eq_some_iff.mp hd
    rw [List.getElem?_zip_eq_some] at e3
    obtain ⟨vx, f1, g1⟩ := q1.get e3.1
    obtain ⟨vy, f2, g2⟩ := q2.get e3.2
    refine ⟨⟨vs, ws, vx, vy, s1, s2, f1, f2⟩, fun z H' w => ?_⟩
    obtain ⟨T, x', y', rfl, hT, rfl, w1, w2⟩ := w
    have i1 := w1 vs s1
    have i2 := w2 ws s2
    rw [f1] at i1
    rw [f2] at i2
    cases i1
    cases i2
    subst e4
    have xx := (Free.ext (K := K) (r := r) (n := h.next) (u := .tup [vx, vy]) (.inl hT))
    exact ⟨S.grow hT, xx, .tup (.inl (.inl upd_same)) (.cons (g1.ext xx) (.cons (g2.ext xx) .nil))⟩
  · have hl' : (xs.zip ys).length ≤ i := by simpa using hl
    rw [List.length_zip] at hl'
    rw [q1.len, q2.len]
    omega
theorem gives_enum {K : PySem.W.Frag} {r1 : Rho} {h1 : Hm} {H1 : Hp} {a : Nat} {xs : List D} (la : a < h1.next) :
    Gives K (Ite K (r1 a)) (xs.zipIdx.map fun p => D.tup [.int (p.2 : Nat), p.1]) [(a, .lst xs)] r1 h1.next H1 := by
  intro r h H S x st i
  have ha : h.get a = some (.lst xs) := st (a, .lst xs) (by simp)
  have er : r a = r1 a := x.at_ a la
  obtain ⟨vs, e1, q1⟩ := (S.obj a _ ha).2
  rw [er] at e1
  have s1 : SqL K H (r1 a) vs := .inl (.inl e1)
  refine ⟨fun d hd => ?_, fun hl => ⟨vs, s1, by rw [q1.len]; simpa using hl⟩⟩
  rw [List.getElem?_map, List.getElem?_zipIdx] at hd
  cases ex : xs[i]? with
  | none => rw [ex] at hd; cases hd
  | some y =>
    rw [ex] at hd
    obtain ⟨v, f1, g1⟩ := q1.get ex
    refine ⟨⟨vs, v, s1, f1⟩, fun z H' w => ?_⟩
    obtain ⟨T, x', rfl, hT, rfl, w1⟩ := w
    have i1 := w1 vs s1
    rw [f1] at i1
    cases i1
    simp only [Option.map_some, Option.some.injEq] at hd
    subst hd
    have xx := (Free.ext (K := K) (r := r) (n := h.next) (u := .tup [.int (i : Nat), v]) (.inl hT))
    exact ⟨S.grow hT, xx, .tup (.inl (.inl upd_same)) (.cons (by rw [Nat.zero_add]; exact .int _) (.cons (g1.ext xx) .nil))⟩
theorem s_walk {K : PySem.W.Frag} {r : Rho} {h : Hm} {H : Hp} {k : ItK} {vs : List V} {ds items : List D} {gd : List (Nat × O)} {R : It → Hp → Prop} (S : Sim K r h H) (q : RepL K r h.next H vs ds) (e : walk k ds h = some (items, gd))
    (p : ∀ J, Gives K J items gd r h.next H → R J H) : rIt K k vs H R := by
  cases k with
  | seq =>
    simp only [walk] at e
    split at e
    · obtain ⟨v, rfl, a⟩ := one_of q
      cases e
      cases a with
      | tup hT q1 => exact ⟨_, rfl, .inr (.inl ⟨_, rfl, ⟨_, hT⟩, p _ (gives_tup hT q1)⟩)⟩
    · obtain ⟨v, rfl, a⟩ := one_of q
      cases e
      cases a with
      | str z =>
        exact ⟨_, rfl, .inr (.inr ⟨_, rfl, p _ gives_str⟩)⟩
    · rename_i a0
      obtain ⟨v, rfl, a⟩ := one_of q
      cases a with
      | ref la =>
        split at e
        · rename_i xs ha
          cases e
          obtain ⟨us, h1, _⟩ := (S.obj a0 _ ha).2
          exact ⟨_, rfl, .inl ⟨_, rfl, ⟨us, .inl (.inl h1)⟩, p _ (gives_lst (h1 := h) la (.inl rfl))⟩⟩
        · rename_i xs ha
          cases e
          obtain ⟨us, h1, _⟩ := (S.obj a0 _ ha).2
          exact ⟨_, rfl, .inl ⟨_, rfl, ⟨us, h1.l⟩, p _ (gives_lst (h1 := h) la (.inr rfl))⟩⟩
        · cases e
    · cases e
  | range1 =>
    simp only [walk] at e
    split at e
    · obtain ⟨v, rfl, a⟩ := one_of q
      cases a
      split at e
      · rename_i hn
        cases e
        exact ⟨_, rfl, hn.1, hn.2, p _ (gives_rng fun i => by simp)⟩
      · cases e
    · cases e
  | range2 =>
    simp only [walk] at e
    split at e
    · obtain ⟨v, w, rfl, a, b⟩ := two_of q
      cases a
      cases b
      split at e
      · rename_i hn
        cases e
        exact ⟨_, _, rfl, ⟨hn.1.1, hn.1.2, hn.2.1, hn.2.2⟩, p _ (gives_rng fun i => rfl)⟩
      · cases e
    · cases e
  | range3 =>
    simp only [walk] at e
    split at e
    · obtain ⟨v, w, u, rfl, a, b, c⟩ := three_of q
      cases a
      cases b
      cases c
      split at e
      · rename_i hn
        cases e
        exact ⟨_, _, _, _, rfl, rgc hn.1 hn.2.1.1 hn.2.1.2 hn.2.2.1 hn.2.2.2, p _ gives_rngC⟩
      · cases e
    · cases e
  | rev =>
    simp only [walk] at e
    split at e
    · obtain ⟨v, rfl, a⟩ := one_of q
      cases e
      cases a with
      | tup hT q1 => exact ⟨_, _, rfl, .inr ⟨hT, p _ (gives_revT hT q1 q1.len)⟩⟩
    · rename_i a0
      obtain ⟨v, rfl, a⟩ := one_of q
      cases a with
      | ref la =>
        split at e
        · rename_i xs ha
          cases e
          obtain ⟨us, h1, q1⟩ := (S.obj a0 _ ha).2
          exact ⟨_, us, rfl, .inl ⟨.inl (.inl h1), p _ (gives_rev (h1 := h) la (.inl rfl) q1.len)⟩⟩
        · rename_i xs ha
          cases e
          obtain ⟨us, h1, q1⟩ := (S.obj a0 _ ha).2
          exact ⟨_, us, rfl, .inl ⟨h1.l, p _ (gives_rev (h1 := h) la (.inr rfl) q1.len)⟩⟩
        · cases e
    · cases e
  | keys =>
    simp only [walk] at e
    split at e
    · rename_i a0
      obtain ⟨v, rfl, a⟩ := one_of q
      cases a with
      | ref la =>
        split at e
        · rename_i kvs ha
          cases e
          obtain ⟨ob, ws, h1, q1⟩ := (S.obj a0 _ ha).2
          exact ⟨_, ob, rfl, .inl ⟨ws, h1, p _ (gives_keys h1 q1)⟩⟩
        · rename_i kvs ha
          cases e
          obtain ⟨ob, ws, h1, q1⟩ := (S.obj a0 _ ha).2
          exact ⟨_, ob, rfl, .inr ⟨ws, h1, p _ (gives_keysT h1 q1)⟩⟩
        · cases e
    · cases e
  | vals =>
    simp only [walk] at e
    split at e
    · rename_i a0
      obtain ⟨v, rfl, a⟩ := one_of q
      cases a with
      | ref la =>
        split at e
        · rename_i kvs ha
          cases e
          obtain ⟨ob, ws, h1, q1⟩ := (S.obj a0 _ ha).2
          exact ⟨_, ob, ws, rfl, h1, p _ (gives_vals h1 q1)⟩
        · cases e
    · cases e
  | items =>
    simp only [walk] at e
    split at e
    · rename_i a0
      obtain ⟨v, rfl, a⟩ := one_of q
      cases a with
      | ref la =>
        split at e
        · rename_i kvs ha
          cases e
          obtain ⟨ob, ws, h1, q1⟩ := (S.obj a0 _ ha).2
          exact ⟨_, ob, ws, rfl, h1, p _ (gives_items h1 q1)⟩
        · cases e
    · cases e
  | zip =>
    simp only [walk] at e
    split at e
    · rename_i a0 b0
      obtain ⟨v, w, rfl, a, b⟩ := two_of q
      cases a with
      | ref la =>
        cases b with
        | ref lb =>
          split at e
          · rename_i xs ys ha hb
            cases e
            obtain ⟨us, h1, _⟩ := (S.obj a0 _ ha).2
            obtain ⟨ws, h2, _⟩ := (S.obj b0 _ hb).2
            exact ⟨_, _, us, ws, rfl, .inl (.inl h1), .inl (.inl h2), p _ (gives_zip (h1 := h) la lb)⟩
          · cases e
    · cases e
  | enum =>
    simp only [walk] at e
    split at e
    · rename_i a0
      obtain ⟨v, rfl, a⟩ := one_of q
      cases a with
      | ref la =>
        split at e
        · rename_i xs ha
          cases e
          obtain ⟨us, h1, _⟩ := (S.obj a0 _ ha).2
          exact ⟨_, us, rfl, .inl (.inl h1), p _ (gives_enum (h1 := h) la)⟩
        · cases e
    · cases e
end Z

set_option maxRecDepth 100000
set_option maxHeartbeats 2000000
namespace Z
open PySem L2

def cV : Cst → V
  | .non => .non
  | .bl b => .bl b
  | .int i => .int i
  | .str s => .str (Str.ofString s)
structure RC where
  K : PySem.W.Frag
  P : Prog
  sp : String → Sp
  gv : String → V
  W : WX
  xa : Addr := 0
  xc : Value := .none
  xd : Option Addr := none
abbrev RC.with (c : RC) (W : WX) : RC := { c with W := W }
abbrev noW : WX := fun _ _ _ _ => False
abbrev RC.wt (c : RC) (σ : L2.St) : XK := fun cls d H => c.W cls d σ H
def rTix (K : PySem.W.Frag) : V → List V → Hp → VK → Prop := fun x xs H Q => ∃ p, ∃ ys : List Str, ∃ z j, x = .ref p ∧ xs = [.str z] ∧ SqT K H p (ys.map V.str) ∧ ys[j]? = some z ∧ (∀ m, m < j → ys[m]? ≠ some z) ∧ Q (.int (j : Nat)) H
def rIsi2 (K : PySem.W.Frag) (t u : Tn) (a : TE) : TE := tCB (rIsiT K) (tCons a (tCons (tTup (tCons (tC (.ty t.nm)) (tCons (tC (.ty u.nm)) tNil))) tNil))
def pairT : List TE → List (TE × TE)
  | a :: b :: r => (a, b) :: pairT r
  | _ => []
def pairL : List V → List (V × V)
  | a :: b :: r => (a, b) :: pairL r
  | _ => []
def tLcX (wi : TI) (g : TG) (tt : TT) (te : WX → TE) (W : WX) (vs : List Nat) : TE := fun σ H Q => tLc wi g tt (te fun cls d _ H' => W cls d σ H') vs σ H Q
mutual
def rdE (c : RC) : E → TE
  | .var i => tVar i
  | .con k => tC (cV k)
  | .glo x => tC (c.gv x)
  | .bin o a b => tOp (rB c.K o) (rdE c a) (rdE c b)
  | .neg a => tUn (rU fun i => .int (-i)) (rdE c a)
  | .cmp o a b => tOp (rCm c.K o) (rdE c a) (rdE c b)
  | .chn o o' a b d => tChain (rCm c.K o) (rCm c.K o') (rdE c a) (rdE c b) (rdE c d)
  | .and a b => tAndV (rdE c a) (rdE c b)
  | .or a b => tOrV (rdE c a) (rdE c b)
  | .not a => tNotV (rdE c a)
  | .ife t a b => tIf (rdT c t) (rdE c a) (rdE c b)
  | .idx a b => tOp (rIx c.K) (rdE c a) (rdE c b)
  | .dgt a b => tDGet (rdE c a) (rdE c b)
  | .slc a lo hi => tSl (rSlZ c.K) (rdE c a) (rdO c lo) (rdO c hi)
  | .att a f => tFld c.K (rdE c a) (Str.ofString f)
  | .tup es => tTup (rdA c es)
  | .lst es => tLst (rdA c es)
  | .dict es => (match es with
    | .nil => tDNewK
    | _ => tDisp (pairT (rdL c es)))
  | .call f es ds => fun σ H Q => rdA c es σ H fun vs H1 => c.sp f (vs ++ ds.map cV) H1 Q (c.wt σ)
  | .meth o m es ds => fun σ H Q => rdE c o σ H fun x H1 => ∃ a dx fs cn f, x = .ref a ∧ H1 a = some (.ins (ca c.K cn) dx fs) ∧ c.P.mt cn m = some f ∧ fs.lookup (Str.ofString m) = none ∧
      rdA c es σ H1 fun vs H2 => c.sp f (x :: (vs ++ ds.map cV)) H2 Q (c.wt σ)
  | .new cn es => fun σ H Q => rdA c es σ H fun vs H1 => ∀ x dx, H1 x = none → H1 dx = none → dx ≠ x → ∃ f, c.P.mt cn "__init__" = some f ∧
      c.sp f (.ref x :: vs) (upd (upd H1 dx (.own x)) x (.ins (ca c.K cn) dx [])) (fun v H2 => v = .non ∧ Q (.ref x) H2) (c.wt σ)
  | .bi b es => tCB (rBi c.K b) (rdA c es)
  | .bm b o es => tBmZ c.K b (rdE c o) (rdA c es)
  | .gix x e => fun σ H Q => tyV c.K "tuple" (c.gv x) H ∧ rdE c e σ H fun y H2 => rTix c.K (c.gv x) [y] H2 Q
  | .isi a t => tCB (rIsi c.K) (tCons (rdE c a) (tCons (tC (.ty t.nm)) tNil))
  | .isi2 a t u => rIsi2 c.K t u (rdE c a)
  | .comp elt own g k es tst => tLc (rdI c.K k (rdA c es)) (rdG c.K g) (rdT (c.with noW) tst) (rdE (c.with noW) elt) own
  | .cpx elt own g k es tst => tLcX (rdI c.K k (rdA c es)) (rdG c.K g) (rdT (c.with noW) tst) (fun W' => rdE (c.with W') elt) c.W own
  | .fst es => fun σ H Q => tJs (rdL c es) Str.empty σ H fun out H1 => Q (.str out) H1
  | .fmt a => tFmt (rdE c a)
  | .rsl a => tRevL c.K (rdE c a)
  | .dictT => tDNewT
  | .dgtT a es => tDGet (rdE c a) (tTup (rdA c es))
  | .getT a es d => tDGet2 (rdE c a) (tTup (rdA c es)) (tC (cV d))
  | .lck _ e => tLockE (rdE c e)
  | .isx i cn => fun σ H Q => ∃ D, c.xc = .ref D ∧ c.xd = none ∧ ExcC c.K D ∧ σ[i]? = some (some (.ref c.xa)) ∧ ∃ b, PySem.W.kitOne c.K (.ref D) (.ref (ca c.K cn)) = some b ∧ Q (.bl b) H
  | .isxB i cn => fun σ H Q => ∃ D, c.xc = .ref D ∧ c.xd = none ∧ ExcC c.K D ∧ σ[i]? = some (some (.ref c.xa)) ∧ ∃ b, PySem.W.kitOne c.K (.ref D) (.type cn) = some b ∧ Q (.bl b) H
  | .lrg a => tLstRg (tRg1 (rdE c a))
  | .iso a cn => tCB (Kept.rIsO c.K) (tCons (rdE c a) (tCons (tC (.ref (ca c.K cn))) tNil))
  | .isoB a cn => tCB (Kept.rIsO c.K) (tCons (rdE c a) (tCons (tC (.ty cn)) tNil))
  | .isc a cn => tCB (rIsi c.K) (tCons (rdE c a) (tCons (tC (.ref (ca c.K cn))) tNil))
  | .new0 cn => fun σ H Q => ∀ x dx, H x = none → H dx = none → dx ≠ x → Q (.ref x) (upd (upd H dx (.own x)) x (.ins (ca c.K cn) dx []))
def rdA (c : RC) : Es → TA
  | .nil => tNil
  | .cons e es => tCons (rdE c e) (rdA c es)
def rdL (c : RC) : Es → List TE
  | .nil => []
  | .cons e es => rdE c e :: rdL c es
def rdO (c : RC) : Eo → TO
  | .none => tNoPart
  | .some e => tPart (rdE c e)
def rdT (c : RC) : T → TT
  | .yes => fun _ H Q => Q true H
  | .cmp o a b => tTest (tOp (rCm c.K o) (rdE c a) (rdE c b))
  | .chn o o' a b d => tTest (tChain (rCm c.K o) (rCm c.K o') (rdE c a) (rdE c b) (rdE c d))
  | .and a b => tAnd (rdT c a) (rdT c b)
  | .or a b => tOr (rdT c a) (rdT c b)
  | .not a => tNot (rdT c a)
  | .tru a => fun σ H Q => rdE c a σ H fun x H' => ∃ k, TruV c.K x H' k ∧ Q k H'
end

structure IsC (K : PySem.W.Frag) (C C' : Addr) (b : Bool) : Prop where
  cl : Cls K C
  ha : PySem.W.findIn K (.ref C) "__class__" = some (some (.builtin "object.__class__"))
  hn : PySem.W.specialIn K (.builtin "object.__class__") "__get__" = some (some (.builtin "getset_descriptor.__get__"))
  htk : PySem.W.takesIn K (.builtin "object.__class__") = some true
  hm : PySem.W.mroIn K C (.type "object") = some true
  one : PySem.W.kitOne K (.ref C) (.ref C') = some b
structure RCok (c : RC) (cl : Cl) : Prop where
  sp : ∀ f ds h res h', cl f ds h = some (res, h') → ∀ r H vs Q E, Sim c.K r h H → RepL c.K r h.next H vs ds → PG c.K E r h H (RepV c.K) Q res h' → c.sp f vs H Q E
  gv : ∀ x d, c.P.glob x = some d → ∀ r n H, RepV c.K r n H (c.gv x) d
  gt : ∀ x xs, c.P.glob x = some (.tup xs) → ∀ H, tyV c.K "tuple" (c.gv x) H
  fld : ∀ cn f, c.P.fld cn f = true → Cls c.K (ca c.K cn) ∧ NoAttr c.K (ca c.K cn) (Str.ofString f)
  sub : ∀ cn cm b, c.P.sub cn cm = some b → IsC c.K (ca c.K cn) (ca c.K cm) b
  exm : ∀ k cm b, c.P.exm k cm = some b → PySem.W.exmOne c.K (.ref (ca c.K k)) (.ref (ca c.K cm)) = some b
  exs : ∀ k cm b, c.P.exs k cm = some b → ExcC c.K (ca c.K k) ∧ PySem.W.kitOne c.K (.ref (ca c.K k)) (.ref (ca c.K cm)) = some b
  exb : ∀ k cm b, c.P.exb k cm = some b → ExcC c.K (ca c.K k) ∧ PySem.W.kitOne c.K (.ref (ca c.K k)) (.type cm) = some b
  xk : ∀ k a, c.P.xk = some (k, a) → c.xa = a ∧ c.xc = .ref (ca c.K k) ∧ c.xd = none
theorem RCok.with {c : RC} {cl : Cl} (k : RCok c cl) (W : WX) : RCok (c.with W) cl := ⟨k.sp, k.gv, k.gt, k.fld, k.sub, k.exm, k.exs, k.exb, k.xk⟩
abbrev RC.exc (c : RC) (k : String) (a : Addr) (cls : Value) (d : Option Addr) : RC := { c with W := noW, P := { c.P with xk := some (k, a) }, xa := a, xc := cls, xd := d }
theorem RCok.exc {c : RC} {cl : Cl} (k : RCok c cl) (kk : String) (a : Addr) : RCok (c.exc kk a (.ref (ca c.K kk)) none) cl :=
  ⟨k.sp, k.gv, k.gt, k.fld, k.sub, k.exm, k.exs, k.exb, fun k' a' e => by
    have e' := Option.some.inj e
    injection e' with e1 e2
    subst e1 e2
    exact ⟨rfl, rfl, rfl⟩⟩

theorem bnd_cases {α β : Type} {m : Res α} {f : α → Hm → Res β} {res : Except String β} {h' : Hm} (e : bnd m f = some (res, h')) :
    (∃ x h1, m = some (.ok x, h1) ∧ f x h1 = some (res, h')) ∨ ∃ k, m = some (.error k, h') ∧ res = .error k := by
  match m, e with
  | some (.ok x, h1), e => exact .inl ⟨x, h1, rfl, e⟩
  | some (.error k, h1), e => cases e; exact .inr ⟨k, rfl, rfl⟩
theorem bndN_cases {α β : Type} {m : Res α} {f : α → Hm → Res β} {res : Except String β} {h' : Hm} (e : bndN m f = some (res, h')) : ∃ x h1, m = some (.ok x, h1) ∧ f x h1 = some (res, h') := by
  match m, e with
  | some (.ok x, h1), e => exact ⟨x, h1, rfl, e⟩
theorem liftO_cases {α : Type} {o : Option α} {h h' : Hm} {res : Except String α} (e : liftO o h = some (res, h')) : ∃ x, o = some x ∧ res = .ok x ∧ h' = h := by
  cases o with
  | none => cases e
  | some x => cases e; exact ⟨x, rfl, rfl, rfl⟩

def SE (cl : Cl) (e : E) : Prop := ∀ (c : RC), RCok c cl → ∀ env h res h', ev c.P cl e env h = some (res, h') → ∀ r σ H Q, Sim c.K r h H → EnvR c.K r h.next H σ env → PG c.K (c.wt σ) r h H (RepV c.K) Q res h' → rdE c e σ H Q
def SA (cl : Cl) (e : Es) : Prop := ∀ (c : RC), RCok c cl → ∀ env h res h', evs c.P cl e env h = some (res, h') → ∀ r σ H Q, Sim c.K r h H → EnvR c.K r h.next H σ env → PG c.K (c.wt σ) r h H (RepL c.K) Q res h' → rdA c e σ H Q
def SO (cl : Cl) (e : Eo) : Prop := ∀ (c : RC), RCok c cl → ∀ env h res h', evO c.P cl e env h = some (res, h') → ∀ r σ H Q, Sim c.K r h H → EnvR c.K r h.next H σ env → PG c.K (c.wt σ) r h H (fun _ _ _ x y => x = y) Q res h' → rdO c e σ H Q
def ST (cl : Cl) (e : T) : Prop := ∀ (c : RC), RCok c cl → ∀ env h res h', evT c.P cl e env h = some (res, h') → ∀ r σ H Q, Sim c.K r h H → EnvR c.K r h.next H σ env → PG c.K (c.wt σ) r h H (fun _ _ _ x y => x = y) Q res h' → rdT c e σ H Q

section
variable {cl : Cl} {c : RC} {a b : E} {env : Env} {h h' : Hm} {r : Rho} {σ : L2.St} {H : Hp}
theorem s1 {β : Type} (ha : SE cl a) (k : RCok c cl) {f : D → Hm → Res β} {res : Except String β} (e : bnd (ev c.P cl a env h) f = some (res, h')) (S : Sim c.K r h H) (en : EnvR c.K r h.next H σ env)
    {B : Type} {R : Rho → Nat → Hp → B → β → Prop} {Q0 : B → Hp → Prop} (p : PG c.K (c.wt σ) r h H R Q0 res h') {Q : VK}
    (w : ∀ x h1 v r1 H1, f x h1 = some (res, h') → Sim c.K r1 h1 H1 → Ext c.K r h.next H r1 h1.next H1 → RepV c.K r1 h1.next H1 v x → EnvR c.K r1 h1.next H1 σ env → PG c.K (c.wt σ) r1 h1 H1 R Q0 res h' → Q v H1) : rdE c a σ H Q := by
  rcases bnd_cases e with ⟨x, h1, e1, e2⟩ | ⟨kk, e1, e2⟩
  · exact ha c k env h _ h1 e1 r σ H Q S en fun v r1 H1 S1 x1 q1 => w x h1 v r1 H1 e2 S1 x1 q1 (en.ext x1) (p.later x1)
  · subst e2
    exact ha c k env h _ h' e1 r σ H Q S en p
theorem s1T {β : Type} {t : T} (ha : ST cl t) (k : RCok c cl) {f : Bool → Hm → Res β} {res : Except String β} (e : bnd (evT c.P cl t env h) f = some (res, h')) (S : Sim c.K r h H) (en : EnvR c.K r h.next H σ env)
    {B : Type} {R : Rho → Nat → Hp → B → β → Prop} {Q0 : B → Hp → Prop} (p : PG c.K (c.wt σ) r h H R Q0 res h') {Q : Bool → Hp → Prop}
    (w : ∀ x h1 r1 H1, f x h1 = some (res, h') → Sim c.K r1 h1 H1 → Ext c.K r h.next H r1 h1.next H1 → EnvR c.K r1 h1.next H1 σ env → PG c.K (c.wt σ) r1 h1 H1 R Q0 res h' → Q x H1) : rdT c t σ H Q := by
  rcases bnd_cases e with ⟨x, h1, e1, e2⟩ | ⟨kk, e1, e2⟩
  · refine ha c k env h _ h1 e1 r σ H Q S en fun v r1 H1 S1 x1 q1 => ?_
    subst q1
    exact w v h1 r1 H1 e2 S1 x1 (en.ext x1) (p.later x1)
  · subst e2
    exact ha c k env h _ h' e1 r σ H Q S en p
theorem s1O {β : Type} {t : Eo} (ha : SO cl t) (k : RCok c cl) {f : Option Int → Hm → Res β} {res : Except String β} (e : bnd (evO c.P cl t env h) f = some (res, h')) (S : Sim c.K r h H) (en : EnvR c.K r h.next H σ env)
    {B : Type} {R : Rho → Nat → Hp → B → β → Prop} {Q0 : B → Hp → Prop} (p : PG c.K (c.wt σ) r h H R Q0 res h') {Q : Option Int → Hp → Prop}
    (w : ∀ x h1 r1 H1, f x h1 = some (res, h') → Sim c.K r1 h1 H1 → Ext c.K r h.next H r1 h1.next H1 → EnvR c.K r1 h1.next H1 σ env → PG c.K (c.wt σ) r1 h1 H1 R Q0 res h' → Q x H1) : rdO c t σ H Q := by
  rcases bnd_cases e with ⟨x, h1, e1, e2⟩ | ⟨kk, e1, e2⟩
  · refine ha c k env h _ h1 e1 r σ H Q S en fun v r1 H1 S1 x1 q1 => ?_
    subst q1
    exact w v h1 r1 H1 e2 S1 x1 (en.ext x1) (p.later x1)
  · subst e2
    exact ha c k env h _ h' e1 r σ H Q S en p
theorem s1A {β : Type} {t : Es} (ha : SA cl t) (k : RCok c cl) {f : List D → Hm → Res β} {res : Except String β} (e : bnd (evs c.P cl t env h) f = some (res, h')) (S : Sim c.K r h H) (en : EnvR c.K r h.next H σ env)
    {B : Type} {R : Rho → Nat → Hp → B → β → Prop} {Q0 : B → Hp → Prop} (p : PG c.K (c.wt σ) r h H R Q0 res h') {Q : List V → Hp → Prop}
    (w : ∀ x h1 v r1 H1, f x h1 = some (res, h') → Sim c.K r1 h1 H1 → Ext c.K r h.next H r1 h1.next H1 → RepL c.K r1 h1.next H1 v x → EnvR c.K r1 h1.next H1 σ env → PG c.K (c.wt σ) r1 h1 H1 R Q0 res h' → Q v H1) : rdA c t σ H Q := by
  rcases bnd_cases e with ⟨x, h1, e1, e2⟩ | ⟨kk, e1, e2⟩
  · exact ha c k env h _ h1 e1 r σ H Q S en fun v r1 H1 S1 x1 q1 => w x h1 v r1 H1 e2 S1 x1 q1 (en.ext x1) (p.later x1)
  · subst e2
    exact ha c k env h _ h' e1 r σ H Q S en p
theorem repCst (K : PySem.W.Frag) (r : Rho) (n : Nat) (H : Hp) (k : Cst) : RepV K r n H (cV k) k.d := by
  cases k with
  | non => exact .non
  | bl b => exact .bl b
  | int i => exact .int i
  | str s => exact .str _
theorem repCsts (K : PySem.W.Frag) (r : Rho) (n : Nat) (H : Hp) : ∀ ds : List Cst, RepL K r n H (ds.map cV) (ds.map Cst.d)
  | [] => .nil
  | k :: ks => .cons (repCst K r n H k) (repCsts K r n H ks)

theorem dgetT_of {K : PySem.W.Frag} {r : Rho} {h : Hm} {H : Hp} (S : Sim K r h H) {a : Nat} {o : Option D} {us : List V} {ks : List D} (q : RepL K r h.next H us ks) (e : dgetT h a ks = some o) {b : Addr} (hb : H b = some (.tup us)) :
    ∃ u, DGet H (r a) (.ref b) u ∧ (∀ d, o = some d → ∃ z, u = some z ∧ RepV K r h.next H z d) ∧ (o = none → u = none) := by
  unfold dgetT at e
  split at e
  · rename_i kvs ha
    obtain ⟨k, e1, e2⟩ := Option.map_eq_some_iff.mp e
    obtain ⟨ws, h1, q1⟩ := (S.obj a _ ha).2
    obtain ⟨g1, g2⟩ := repK_get k q1
    rw [keys_of q e1] at hb
    refine ⟨_, DGet.t h1 hb, fun d z => ?_, fun z => ?_⟩
    · rw [z] at e2
      exact g1 d e2
    · rw [z] at e2
      exact g2 e2
  · rename_i kvs ha
    obtain ⟨k, e1, e2⟩ := Option.map_eq_some_iff.mp e
    obtain ⟨ob, ws, h1, q1⟩ := (S.obj a _ ha).2
    obtain ⟨g1, g2⟩ := repK_get k q1
    rw [keys_of q e1] at hb
    refine ⟨_, Or.inr ⟨ws, k, b, .inr ⟨ob, h1⟩, rfl, hb, rfl⟩, fun d z => ?_, fun z => ?_⟩
    · rw [z] at e2
      exact g1 d e2
    · rw [z] at e2
      exact g2 e2
  · cases e
theorem isD_of {K : PySem.W.Frag} {r : Rho} {h : Hm} {H : Hp} (S : Sim K r h H) {a : Nat} {ks : List D} {o : Option D} (e : dgetT h a ks = some o) : IsD H (r a) := by
  unfold dgetT at e
  split at e
  · rename_i kvs ha
    obtain ⟨ws, h1, _⟩ := (S.obj a _ ha).2
    exact .inr ⟨ws, .inl h1⟩
  · rename_i kvs ha
    obtain ⟨ob, ws, h1, _⟩ := (S.obj a _ ha).2
    exact .inr ⟨ws, .inr ⟨ob, h1⟩⟩
  · cases e

theorem pair_rep {K : PySem.W.Frag} {r : Rho} {n : Nat} {H : Hp} : ∀ (us : List V) (vs : List D) (kvs : List (L2.Key × D)), RepL K r n H us vs → pairUp vs = some kvs → ∃ ks : List (Key × V), pairL us = ks.map (fun kv => (kV kv.1, kv.2)) ∧ RepK K r n H ks kvs
  | _, _, kvs, .nil, e => by cases e; exact ⟨[], rfl, rfl, .nil⟩
  | _, _, kvs, .cons a .nil, e => by cases e
  | _, _, kvs, .cons (v := v1) (d := d1) a (.cons (v := v2) (d := d2) b t), e => by
    simp only [pairUp] at e
    split at e
    · rename_i q ps h1 h2
      cases e
      obtain ⟨ks, e1, e2⟩ := pair_rep _ _ ps t h2
      have ek : v1 = kV q := by
        unfold key? at h1
        split at h1
        · cases h1; cases a; rfl
        · cases h1; cases a; rfl
        · cases h1
      refine ⟨(q, v2) :: ks, by rw [ek, List.map_cons, ← e1]; rfl, by rw [List.map_cons, List.map_cons, e2.1], .cons b e2.2⟩
    · cases e
theorem rep_merge {K : PySem.W.Frag} {r : Rho} {n : Nat} {H : Hp} : ∀ (ks : List (Key × V)) (kvs : List (Key × D)) (ws : List (Key × V)) (ds : List (Key × D)), RepK K r n H ks kvs → RepK K r n H ws ds → RepK K r n H (mergeK ws ks) (kmerge ds kvs)
  | [], [], ws, ds, _, q => q
  | [], _ :: _, _, _, q, _ => by cases q.1
  | _ :: _, [], _, _, q, _ => by cases q.1
  | (k1, v1) :: ks, (k2, d2) :: kvs, ws, ds, q, q0 => by
    obtain ⟨q1, q2⟩ := q
    rw [List.map_cons, List.map_cons] at q1 q2
    injection q1 with q3 q4
    cases q2 with
    | cons a t =>
      have : k1 = k2 := q3
      subst this
      exact rep_merge ks kvs _ _ ⟨q4, t⟩ (repK_put k1 a q0)
theorem bnd_pair {P : Prog} {cl : Cl} {a b : E} {es : Es} {env : Env} {h : Hm} {f : List D → Hm → Res D} : bnd (evs P cl (.cons a (.cons b es)) env h) f = bnd (ev P cl a env h) fun x h1 => bnd (ev P cl b env h1) fun y h2 => bnd (evs P cl es env h2) fun zs h3 => f (x :: y :: zs) h3 := by
  simp only [evs]
  cases e1 : ev P cl a env h with
  | none => rfl
  | some p =>
    obtain ⟨o, h1⟩ := p
    cases o with
    | error k => rfl
    | ok x =>
      simp only [bnd_ok]
      cases e2 : ev P cl b env h1 with
      | none => rfl
      | some p2 =>
        obtain ⟨o2, h2⟩ := p2
        cases o2 with
        | error k => rfl
        | ok y =>
          simp only [bnd_ok]
          cases e3 : evs P cl es env h2 with
          | none => rfl
          | some p3 =>
            obtain ⟨o3, h3⟩ := p3
            cases o3 with
            | error k => rfl
            | ok zs => rfl
theorem s_comp {elt : E} {tst : T} {g : Tg} {gd : List (Nat × O)} {own : List Nat} {items : List D} {a0 : Nat} (hE : SE cl elt) (hT : ST cl tst) (k : RCok c cl) {J : It} {r1 : Rho} {n1 : Nat} {H1 : Hp} (G : Gives c.K J items gd r1 n1 H1)
    (hg : ∀ i ∈ g.is, i ∈ own) {r0 : Rho} {h0 : Hm} {H0 : Hp} (S0 : Sim c.K r0 h0 H0) (x0 : Ext c.K r1 n1 H1 r0 h0.next H0) (la : a0 < h0.next) (en : EnvR c.K r0 h0.next H0 σ env) {res : Except String D} {Q : VK} {W : XK}
    (e : compL (fun e1 h2 => ev c.P cl elt e1 h2) (fun e1 h2 => evT c.P cl tst e1 h2) g gd a0 (wipeE env own) items h0 = some (res, h')) (p : PG c.K W r0 h0 H0 (RepV c.K) Q res h') :
    ∃ W : Nat → Nat → Hp → Prop, (∃ m, W 0 m H0) ∧ ∀ i m H, W i m H → (J.stop i H ∧ Q (.ref (r0 a0)) H) ∨ (J.go i H ∧ ∃ Nx : Hp → Prop, (∀ H', Nx H' → ∃ m', m' < m ∧ W (i + 1) m' H') ∧
      ∀ x H', J.yld i H x H' → rdG c.K g x (wipe σ own) H' fun σ2 H2 => wipe σ2 own = wipe σ own ∧ rdT (c.with noW) tst σ2 H2 fun b H3 =>
        if b = true then rdE (c.with noW) elt σ2 H3 fun y H4 => ∃ acc, H4 (r0 a0) = some (.lst acc) ∧ acc.length < sizeLine ∧ Nx (upd H4 (r0 a0) (.lst (acc ++ [y]))) else Nx H3) := by
  refine ⟨fun i m H => m = items.length - i ∧ i ≤ items.length ∧ ∃ r h, Sim c.K r h H ∧ Ext c.K r0 h0.next H0 r h.next H ∧
    compL (fun e1 h2 => ev c.P cl elt e1 h2) (fun e1 h2 => evT c.P cl tst e1 h2) g gd a0 (wipeE env own) (items.drop i) h = some (res, h'), ⟨_, rfl, Nat.zero_le _, r0, h0, S0, Ext.refl, e⟩, ?_⟩
  rintro i m H ⟨rfl, hi, r, h, S, x, e⟩
  have k' : RCok (c.with noW) cl := k.with noW
  cases hd : items[i]? with
  | none =>
    have hl : items.length ≤ i := List.getElem?_eq_none_iff.mp hd
    rw [List.drop_of_length_le hl] at e
    unfold compL at e
    split at e
    · rename_i st
      cases e
      refine .inl ⟨((G r _ H S (x0.trans x) st i).2 hl), ?_⟩
      rw [← x.at_ a0 la]
      exact p _ r H S x (.ref (Nat.lt_of_lt_of_le la x.le))
    · cases e
  | some d =>
    have hil : i < items.length := (List.getElem?_eq_some_iff.mp hd).1
    have ed : items.drop i = d :: items.drop (i + 1) := by
      rw [List.drop_eq_getElem_cons hil]
      congr 1
      rw [List.getElem?_eq_getElem hil] at hd
      exact Option.some.inj hd
    rw [ed] at e
    unfold compL at e
    split at e
    · rename_i st
      obtain ⟨g1, g2⟩ := (G r h H S (x0.trans x) st i).1 d hd
      refine .inr ⟨g1, fun H' => ∃ r h, Sim c.K r h H' ∧ Ext c.K r0 h0.next H0 r h.next H' ∧
        compL (fun e1 h2 => ev c.P cl elt e1 h2) (fun e1 h2 => evT c.P cl tst e1 h2) g gd a0 (wipeE env own) (items.drop (i + 1)) h = some (res, h'), ?_, ?_⟩
      · rintro H' ⟨r2, h2, S2, x2, e2⟩
        exact ⟨_, by omega, rfl, hil, r2, h2, S2, x2, e2⟩
      · intro y H' yl
        obtain ⟨S', x', q'⟩ := g2 y H' yl
        split at e
        · cases e
        · rename_i env1 he1
          have en' : EnvR c.K r h.next H' (wipe σ own) (wipeE env own) := ((en.ext x).ext x').wipe own
          refine s_g q' en' he1 fun σ2 en2 ap => ⟨(ap own hg).trans wipe_wipe, ?_⟩
          obtain ⟨b, h2, e1, e2⟩ := bndN_cases e
          refine hT (c.with noW) k' env1 h _ h2 e1 r σ2 H' _ S' en2 ?_
          intro b' r2 H2 S2 x2 eb
          subst eb
          split at e2
          · rename_i hb
            subst hb
            rw [if_pos rfl]
            obtain ⟨z, h3, e3, e4⟩ := bndN_cases e2
            refine hE (c.with noW) k' env1 h2 _ h3 e3 r2 σ2 H2 _ S2 (en2.ext x2) ?_
            intro v r3 H3 S3 x3 q3
            split at e4
            · rename_i acc ha
              split at e4
              · rename_i hl
                obtain ⟨vs, h1, q4⟩ := (S3.obj a0 _ ha).2
                have xx := ((x.trans x').trans x2).trans x3
                have er : r3 a0 = r0 a0 := xx.at_ a0 la
                rw [er] at h1
                refine ⟨vs, h1, by rw [q4.len]; exact lim_lt hl, r3, _, ?_, ?_, e4⟩
                · rw [← er]
                  exact S3.put ha rfl rfl ⟨_, upd_same, (q4.ext (S3.free ha rfl).ext).append1 (q3.ext (S3.free ha rfl).ext)⟩
                · refine xx.trans ?_
                  rw [← er]
                  exact (S3.free ha rfl).ext
              · cases e4
            · cases e4
          · rename_i hb
            rw [if_neg hb]
            exact ⟨r2, h2, S2, (x.trans x').trans x2, e2⟩
    · cases e
theorem s_compX {elt : E} {tst : T} {g : Tg} {gd : List (Nat × O)} {own : List Nat} {items : List D} {a0 : Nat} (hE : SE cl elt) (hT : ST cl tst) (k : RCok c cl) {J : It} {r1 : Rho} {n1 : Nat} {H1 : Hp} (G : Gives c.K J items gd r1 n1 H1)
    (hg : ∀ i ∈ g.is, i ∈ own) {r0 : Rho} {h0 : Hm} {H0 : Hp} (S0 : Sim c.K r0 h0 H0) (x0 : Ext c.K r1 n1 H1 r0 h0.next H0) (la : a0 < h0.next) (en : EnvR c.K r0 h0.next H0 σ env) {res : Except String D} {Q : VK}
    (e : compX (fun e1 h2 => ev c.P cl elt e1 h2) (fun e1 h2 => evT c.P cl tst e1 h2) g gd a0 (wipeE env own) items h0 = some (res, h')) (p : PG c.K (c.wt σ) r0 h0 H0 (RepV c.K) Q res h') :
    ∃ W : Nat → Nat → Hp → Prop, (∃ m, W 0 m H0) ∧ ∀ i m H, W i m H → (J.stop i H ∧ Q (.ref (r0 a0)) H) ∨ (J.go i H ∧ ∃ Nx : Hp → Prop, (∀ H', Nx H' → ∃ m', m' < m ∧ W (i + 1) m' H') ∧
      ∀ x H', J.yld i H x H' → rdG c.K g x (wipe σ own) H' fun σ2 H2 => wipe σ2 own = wipe σ own ∧ rdT (c.with noW) tst σ2 H2 fun b H3 =>
        if b = true then rdE (c.with fun cls d _ H' => c.W cls d σ H') elt σ2 H3 fun y H4 => ∃ acc, H4 (r0 a0) = some (.lst acc) ∧ acc.length < sizeLine ∧ Nx (upd H4 (r0 a0) (.lst (acc ++ [y]))) else Nx H3) := by
  refine ⟨fun i m H => m = items.length - i ∧ i ≤ items.length ∧ ∃ r h, Sim c.K r h H ∧ Ext c.K r0 h0.next H0 r h.next H ∧
    compX (fun e1 h2 => ev c.P cl elt e1 h2) (fun e1 h2 => evT c.P cl tst e1 h2) g gd a0 (wipeE env own) (items.drop i) h = some (res, h'), ⟨_, rfl, Nat.zero_le _, r0, h0, S0, Ext.refl, e⟩, ?_⟩
  rintro i m H ⟨rfl, hi, r, h, S, x, e⟩
  have k' : RCok (c.with noW) cl := k.with noW
  cases hd : items[i]? with
  | none =>
    have hl : items.length ≤ i := List.getElem?_eq_none_iff.mp hd
    rw [List.drop_of_length_le hl] at e
    unfold compX at e
    split at e
    · rename_i st
      cases e
      refine .inl ⟨((G r _ H S (x0.trans x) st i).2 hl), ?_⟩
      rw [← x.at_ a0 la]
      exact p _ r H S x (.ref (Nat.lt_of_lt_of_le la x.le))
    · cases e
  | some d =>
    have hil : i < items.length := (List.getElem?_eq_some_iff.mp hd).1
    have ed : items.drop i = d :: items.drop (i + 1) := by
      rw [List.drop_eq_getElem_cons hil]
      congr 1
      rw [List.getElem?_eq_getElem hil] at hd
      exact Option.some.inj hd
    rw [ed] at e
    unfold compX at e
    split at e
    · rename_i st
      obtain ⟨g1, g2⟩ := (G r h H S (x0.trans x) st i).1 d hd
      refine .inr ⟨g1, fun H' => ∃ r h, Sim c.K r h H' ∧ Ext c.K r0 h0.next H0 r h.next H' ∧
        compX (fun e1 h2 => ev c.P cl elt e1 h2) (fun e1 h2 => evT c.P cl tst e1 h2) g gd a0 (wipeE env own) (items.drop (i + 1)) h = some (res, h'), ?_, ?_⟩
      · rintro H' ⟨r2, h2, S2, x2, e2⟩
        exact ⟨_, by omega, rfl, hil, r2, h2, S2, x2, e2⟩
      · intro y H' yl
        obtain ⟨S', x', q'⟩ := g2 y H' yl
        split at e
        · cases e
        · rename_i env1 he1
          have en' : EnvR c.K r h.next H' (wipe σ own) (wipeE env own) := ((en.ext x).ext x').wipe own
          refine s_g q' en' he1 fun σ2 en2 ap => ⟨(ap own hg).trans wipe_wipe, ?_⟩
          obtain ⟨b, h2, e1, e2⟩ := bndN_cases e
          refine hT (c.with noW) k' env1 h _ h2 e1 r σ2 H' _ S' en2 ?_
          intro b' r2 H2 S2 x2 eb
          subst eb
          split at e2
          · rename_i hb
            subst hb
            rw [if_pos rfl]
            rcases bnd_cases e2 with ⟨z, h3, e3, e4⟩ | ⟨kk, e3, e4⟩
            case inr =>
              subst e4
              exact hE (c.with fun cls d _ H' => c.W cls d σ H') (k.with _) env1 h2 _ h' e3 r2 σ2 H2 _ S2 (en2.ext x2) fun r3 H3 S3 x3 => p r3 H3 S3 (((x.trans x').trans x2).trans x3)
            refine hE (c.with fun cls d _ H' => c.W cls d σ H') (k.with _) env1 h2 _ h3 e3 r2 σ2 H2 _ S2 (en2.ext x2) ?_
            intro v r3 H3 S3 x3 q3
            split at e4
            · rename_i acc ha
              split at e4
              · rename_i hl
                obtain ⟨vs, h1, q4⟩ := (S3.obj a0 _ ha).2
                have xx := ((x.trans x').trans x2).trans x3
                have er : r3 a0 = r0 a0 := xx.at_ a0 la
                rw [er] at h1
                refine ⟨vs, h1, by rw [q4.len]; exact lim_lt hl, r3, _, ?_, ?_, e4⟩
                · rw [← er]
                  exact S3.put ha rfl rfl ⟨_, upd_same, (q4.ext (S3.free ha rfl).ext).append1 (q3.ext (S3.free ha rfl).ext)⟩
                · refine xx.trans ?_
                  rw [← er]
                  exact (S3.free ha rfl).ext
              · cases e4
            · cases e4
          · rename_i hb
            rw [if_neg hb]
            exact ⟨r2, h2, S2, (x.trans x').trans x2, e2⟩
    · cases e
end

mutual
theorem sP (cl : Cl) : ∀ es : Es, es.len % 2 = 0 → ∀ (c : RC), RCok c cl → ∀ (env : Env) (h : Hm) (res : Except String D) (h' : Hm) {f : List D → Hm → Res D}, bnd (evs c.P cl es env h) f = some (res, h') → ∀ (r : Rho) (σ : L2.St) (H : Hp) (Q0 : VK), Sim c.K r h H → EnvR c.K r h.next H σ env → PG c.K (c.wt σ) r h H (RepV c.K) Q0 res h' →
    ∀ (Qp : List (V × V) → Hp → Prop), (∀ vs h1 us r1 H1, f vs h1 = some (res, h') → Sim c.K r1 h1 H1 → Ext c.K r h.next H r1 h1.next H1 → RepL c.K r1 h1.next H1 us vs → PG c.K (c.wt σ) r1 h1 H1 (RepV c.K) Q0 res h' → Qp (pairL us) H1) → tPairs (pairT (rdL c es)) σ H Qp
  | .nil => by
    intro _ c k env h res h' f e r σ H Q0 S en p Qp w
    have e : f [] h = some (res, h') := by simpa only [evs, ok, bnd_ok] using e
    exact w [] h [] r H e S Ext.refl .nil p
  | .cons a .nil => by intro hl; cases hl
  | .cons a (.cons b es) => by
    intro hl c k env h res h' f e r σ H Q0 S en p Qp w
    have hl' : es.len % 2 = 0 := by
      have hl : (es.len + 1 + 1) % 2 = 0 := hl
      omega
    rw [bnd_pair] at e
    show rdE c a σ H fun x H1 => rdE c b σ H1 fun y H2 => tPairs (pairT (rdL c es)) σ H2 fun ps H3 => Qp ((x, y) :: ps) H3
    refine s1 (sE cl a) k e S en p fun x h1 v r1 H1 e1 S1 x1 q1 en1 p1 => s1 (sE cl b) k e1 S1 en1 p1 fun y h2 u r2 H2 e2 S2 x2 q2 en2 p2 => ?_
    refine sP cl es hl' c k env h2 res h' e2 r2 σ H2 Q0 S2 en2 p2 _ fun vs h3 us r3 H3 e3 S3 x3 q3 p3 => ?_
    exact w (x :: y :: vs) h3 (v :: u :: us) r3 H3 e3 S3 ((x1.trans x2).trans x3) (.cons ((q1.ext x2).ext x3) (.cons (q2.ext x3) q3)) p3
theorem sJ (cl : Cl) : ∀ es : Es, ∀ (c : RC), RCok c cl → ∀ (env : Env) (h : Hm) (res : Except String D) (h' : Hm) (acc : Str), evJ c.P cl es acc env h = some (res, h') → ∀ (r : Rho) (σ : L2.St) (H : Hp) (Q : VK), Sim c.K r h H → EnvR c.K r h.next H σ env → PG c.K (c.wt σ) r h H (RepV c.K) Q res h' → tJs (rdL c es) acc σ H fun out H1 => Q (.str out) H1
  | .nil => by
    intro c k env h res h' acc e r σ H Q S en p
    simp only [evJ] at e
    cases e
    exact s_plain S (.str _) p
  | .cons a es => by
    intro c k env h res h' acc e r σ H Q S en p
    simp only [evJ] at e
    show rdE c a σ H fun x H1 => ∃ y : Str, x = .str y ∧ (acc ++ y).length ≤ sizeLine ∧ tJs (rdL c es) (acc ++ y) σ H1 fun out H1 => Q (.str out) H1
    refine s1 (sE cl a) k e S en p fun x h1 v r1 H1 e1 S1 x1 q1 en1 p1 => ?_
    split at e1
    · rename_i y
      split at e1
      · rename_i hl
        cases q1
        exact ⟨y, rfl, lim_le hl, sJ cl es c k env h1 res h' (acc ++ y) e1 r1 σ H1 Q S1 en1 p1⟩
      · cases e1
    · cases e1
theorem sE (cl : Cl) : ∀ e : E, SE cl e
  | .var i => by
    intro c k env h res h' e r σ H Q S en p
    simp only [ev] at e
    split at e
    · rename_i d hd
      cases e
      obtain ⟨v, e1, q⟩ := en.at_ i d hd
      exact ⟨v, e1, s_plain S q p⟩
    · cases e
  | .con kk => by
    intro c k env h res h' e r σ H Q S en p
    simp only [ev] at e
    cases e
    exact s_plain S (repCst _ _ _ _ kk) p
  | .glo x => by
    intro c k env h res h' e r σ H Q S en p
    simp only [ev] at e
    obtain ⟨d, e1, e2, e3⟩ := liftO_cases e
    subst e2 e3
    exact s_plain S (k.gv x d e1 _ _ _) p
  | .bin o a b => by
    intro c k env h res h' e r σ H Q S en p
    simp only [ev] at e
    exact s1 (sE cl a) k e S en p fun x h1 v r1 H1 e1 S1 x1 q1 en1 p1 => s1 (sE cl b) k e1 S1 en1 p1 fun y h2 w r2 H2 e2 S2 x2 q2 en2 p2 => s_bin S2 (q1.ext x2) q2 e2 p2
  | .neg a => by
    intro c k env h res h' e r σ H Q S en p
    simp only [ev] at e
    refine s1 (sE cl a) k e S en p fun x h1 v r1 H1 e1 S1 x1 q1 en1 p1 => ?_
    cases q1 with
    | int i => cases e1; exact ⟨i, rfl, s_plain S1 (.int _) p1⟩
    | _ => cases e1
  | .cmp o a b => by
    intro c k env h res h' e r σ H Q S en p
    simp only [ev] at e
    refine s1 (sE cl a) k e S en p fun x h1 v r1 H1 e1 S1 x1 q1 en1 p1 => s1 (sE cl b) k e1 S1 en1 p1 fun y h2 w r2 H2 e2 S2 x2 q2 en2 p2 => ?_
    obtain ⟨d, e3, e4, e5⟩ := liftO_cases e2
    obtain ⟨bb, e6, e7⟩ := Option.map_eq_some_iff.mp e3
    subst e4 e5 e7
    exact s_cmp S2 (q1.ext x2) q2 e6 (s_plain S2 (.bl _) p2)
  | .chn o o' a b d => by
    intro c k env h res h' e r σ H Q S en p
    simp only [ev] at e
    refine s1 (sE cl a) k e S en p fun x h1 v r1 H1 e1 S1 x1 q1 en1 p1 => s1 (sE cl b) k e1 S1 en1 p1 fun y h2 w r2 H2 e2 S2 x2 q2 en2 p2 => ?_
    split at e2
    · rename_i hc
      refine s_cmp S2 (q1.ext x2) q2 hc ⟨true, rfl, ?_⟩
      rw [if_pos rfl]
      refine s1 (sE cl d) k e2 S2 en2 p2 fun z h3 u r3 H3 e3 S3 x3 q3 en3 p3 => ?_
      obtain ⟨d, e4, e5, e6⟩ := liftO_cases e3
      obtain ⟨bb, e7, e8⟩ := Option.map_eq_some_iff.mp e4
      subst e5 e6 e8
      exact s_cmp S3 (q2.ext x3) q3 e7 (s_plain S3 (.bl _) p3)
    · rename_i hc
      cases e2
      refine s_cmp S2 (q1.ext x2) q2 hc ⟨false, rfl, ?_⟩
      rw [if_neg Bool.false_ne_true]
      exact s_plain S2 (.bl _) p2
    · cases e2
  | .and a b => by
    intro c k env h res h' e r σ H Q S en p
    simp only [ev] at e
    refine s1 (sE cl a) k e S en p fun x h1 v r1 H1 e1 S1 x1 q1 en1 p1 => ?_
    cases q1 with
    | bl bb =>
      refine ⟨bb, rfl, ?_⟩
      cases bb with
      | true => rw [if_pos rfl]; exact sE cl b c k env h1 _ h' e1 r1 σ H1 Q S1 en1 p1
      | false =>
        rw [if_neg Bool.false_ne_true]
        cases e1
        exact s_plain S1 (.bl _) p1
    | _ => cases e1
  | .or a b => by
    intro c k env h res h' e r σ H Q S en p
    simp only [ev] at e
    refine s1 (sE cl a) k e S en p fun x h1 v r1 H1 e1 S1 x1 q1 en1 p1 => ?_
    cases q1 with
    | bl bb =>
      refine ⟨bb, rfl, ?_⟩
      cases bb with
      | true =>
        rw [if_pos rfl]
        cases e1
        exact s_plain S1 (.bl _) p1
      | false => rw [if_neg Bool.false_ne_true]; exact sE cl b c k env h1 _ h' e1 r1 σ H1 Q S1 en1 p1
    | _ => cases e1
  | .not a => by
    intro c k env h res h' e r σ H Q S en p
    simp only [ev] at e
    refine s1 (sE cl a) k e S en p fun x h1 v r1 H1 e1 S1 x1 q1 en1 p1 => ?_
    cases q1 with
    | bl bb => cases e1; exact ⟨bb, rfl, s_plain S1 (.bl _) p1⟩
    | _ => cases e1
  | .ife t a b => by
    intro c k env h res h' e r σ H Q S en p
    simp only [ev] at e
    refine s1T (sT cl t) k e S en p fun x h1 r1 H1 e1 S1 x1 en1 p1 => ?_
    cases x with
    | true => rw [if_pos rfl] at e1 ⊢; exact sE cl a c k env h1 _ h' e1 r1 σ H1 Q S1 en1 p1
    | false => rw [if_neg Bool.false_ne_true] at e1 ⊢; exact sE cl b c k env h1 _ h' e1 r1 σ H1 Q S1 en1 p1
  | .idx a b => by
    intro c k env h res h' e r σ H Q S en p
    simp only [ev] at e
    refine s1 (sE cl a) k e S en p fun x h1 v r1 H1 e1 S1 x1 q1 en1 p1 => s1 (sE cl b) k e1 S1 en1 p1 fun y h2 w r2 H2 e2 S2 x2 q2 en2 p2 => ?_
    obtain ⟨d, e3, e4, e5⟩ := liftO_cases e2
    subst e4 e5
    exact s_idx S2 (q1.ext x2) q2 e3 p2
  | .dgt a b => by
    intro c k env h res h' e r σ H Q S en p
    simp only [ev] at e
    refine s1 (sE cl a) k e S en p fun x h1 v r1 H1 e1 S1 x1 q1 en1 p1 => s1 (sE cl b) k e1 S1 en1 p1 fun y h2 w r2 H2 e2 S2 x2 q2 en2 p2 => ?_
    have q1' := q1.ext x2
    cases q1' with
    | @ref a la =>
      simp only at e2
      split at e2
      · rename_i d hd
        cases e2
        obtain ⟨u, g, g1, _⟩ := dget_of S2 q2 hd
        obtain ⟨z, ez, qz⟩ := g1 _ rfl
        subst ez
        exact ⟨_, z, rfl, g, s_plain S2 qz p2⟩
      · cases e2
    | _ => cases e2
  | .slc a lo hi => by
    intro c k env h res h' e r σ H Q S en p
    simp only [ev] at e
    exact s1 (sE cl a) k e S en p fun x h1 v r1 H1 e1 S1 x1 q1 en1 p1 => s1O (sO cl lo) k e1 S1 en1 p1 fun l h2 r2 H2 e2 S2 x2 en2 p2 =>
      s1O (sO cl hi) k e2 S2 en2 p2 fun u h3 r3 H3 e3 S3 x3 en3 p3 => s_slc S3 (q1.ext (x2.trans x3)) e3 p3
  | .att a f => by
    intro c k env h res h' e r σ H Q S en p
    simp only [ev] at e
    refine s1 (sE cl a) k e S en p fun x h1 v r1 H1 e1 S1 x1 q1 en1 p1 => ?_
    cases q1 with
    | @ref a la =>
      simp only at e1
      split at e1
      · rename_i cn fs ha
        split at e1
        · rename_i hf
          obtain ⟨d, e3, e4, e5⟩ := liftO_cases e1
          subst e4 e5
          obtain ⟨dx, ws, h1, q2⟩ := (S1.obj a _ ha).2
          obtain ⟨u, e6, q3⟩ := repF_get q2 e3
          obtain ⟨c1, c2⟩ := k.fld cn f hf
          exact ⟨_, _, dx, ws, u, rfl, h1, c1, c2, e6, s_plain S1 q3 p1⟩
        · cases e1
      · cases e1
    | _ => cases e1
  | .tup es => by
    intro c k env h res h' e r σ H Q S en p
    simp only [ev] at e
    refine s1A (sA cl es) k e S en p fun x h1 v r1 H1 e1 S1 x1 q1 en1 p1 => ?_
    split at e1
    · rename_i hl
      cases e1
      exact ⟨by rw [q1.len]; exact lim_le hl, s_newtup S1 q1 p1⟩
    · cases e1
  | .lst es => by
    intro c k env h res h' e r σ H Q S en p
    simp only [ev] at e
    refine s1A (sA cl es) k e S en p fun x h1 v r1 H1 e1 S1 x1 q1 en1 p1 => ?_
    split at e1
    · rename_i hl
      cases e1
      exact ⟨by rw [q1.len]; exact lim_le hl, s_newlist S1 q1 p1⟩
    · cases e1
  | .dict .nil => by
    intro c k env h res h' e r σ H Q S en p
    simp only [ev] at e
    cases e
    exact s_newdict S (ws := []) (kvs := []) ⟨rfl, .nil⟩ p
  | .dict (.cons a b) => by
    intro c k env h res h' e r σ H Q S en p
    simp only [ev] at e
    split at e
    · rename_i hl
      show tDisp (pairT (rdL c (.cons a b))) σ H Q
      intro p0 hp0
      have x1 := (Free.extN (K := c.K) (r := r) (n := h.next) (u := .dK []) (.inl hp0))
      have S1 : Sim c.K (rn r h.next p0) (h.new (.dic [])) (upd H p0 (.dK [])) := S.new hp0 rfl ⟨[], upd_same, ⟨rfl, .nil⟩⟩
      refine sP cl (.cons a b) hl c k env (h.new (.dic [])) res h' e (rn r h.next p0) σ _ Q S1 (en.ext x1) (p.later x1) _ ?_
      intro vs h1 us r2 H2 e2 S2 x2 q2 p2
      unfold dispO at e2
      split at e2
      · rename_i kvs hg hk
        split at e2
        · rename_i h15
          cases e2
          obtain ⟨ws, g1, g2⟩ := (S2.obj h.next _ hg).2
          have w0 : ws = [] := by
            have := g2.1
            rw [List.map_nil] at this
            exact List.map_eq_nil_iff.mp this
          subst w0
          have er : r2 h.next = p0 := by rw [x2.at_ h.next (Nat.lt_succ_self _), rn_at]
          rw [er] at g1
          obtain ⟨ks, e3, q3⟩ := pair_rep us vs kvs q2 hk
          refine ⟨g1, ks, e3, by rw [show ks.length = kvs.length from by have := congrArg List.length q3.1; simpa using this]; exact h15, ?_⟩
          have S3 : Sim c.K r2 (h1.put h.next (.dic (kmerge [] kvs))) (upd H2 p0 (.dK (mergeK [] ks))) := by
            rw [← er]
            exact S2.put hg rfl rfl ⟨_, upd_same, RepK.ext (S2.free hg rfl).ext (rep_merge ks kvs [] [] q3 ⟨rfl, .nil⟩)⟩
          have x3 : Ext c.K r2 h1.next H2 r2 h1.next (upd H2 p0 (.dK (mergeK [] ks))) := by rw [← er]; exact (S2.free hg rfl).ext
          exact p2 (.ref p0) r2 _ S3 x3 (by rw [← er]; exact .ref x2.le)
        · cases e2
      · cases e2
    · cases e
  | .call f es ds => by
    intro c k env h res h' e r σ H Q S en p
    simp only [ev] at e
    exact s1A (sA cl es) k e S en p fun x h1 v r1 H1 e1 S1 x1 q1 en1 p1 => k.sp f _ h1 res h' e1 r1 H1 _ Q _ S1 (q1.app (repCsts _ _ _ _ ds)) p1
  | .meth o m es ds => by
    intro c k env h res h' e r σ H Q S en p
    simp only [ev] at e
    refine s1 (sE cl o) k e S en p fun x h1 v r1 H1 e1 S1 x1 q1 en1 p1 => ?_
    cases q1 with
    | @ref a la =>
      simp only at e1
      split at e1
      · rename_i cn fs ha
        split at e1
        · rename_i f hm hl
          obtain ⟨dx, ws, h1, q2⟩ := (S1.obj a _ ha).2
          refine ⟨_, dx, ws, cn, f, rfl, h1, hm, repF_none q2 hl, ?_⟩
          refine s1A (sA cl es) k e1 S1 en1 p1 fun vs h2 us r2 H2 e2 S2 x2 q3 en2 p2 => ?_
          exact k.sp f _ h2 res h' e2 r2 H2 _ Q _ S2 (.cons (RepV.ext x2 (.ref la)) (q3.app (repCsts _ _ _ _ ds))) p2
        · cases e1
      · cases e1
    | _ => cases e1
  | .new cn es => by
    intro c k env h res h' e r σ H Q S en p
    simp only [ev] at e
    refine s1A (sA cl es) k e S en p fun ds h1 vs r1 H1 e1 S1 x1 q1 en1 p1 => ?_
    intro x dx nx ndx ne
    split at e1
    · rename_i f hm
      refine ⟨f, hm, ?_⟩
      have nx' : upd H1 dx (.own x) x = none := by rw [upd_ne ne.symm]; exact nx
      have xa := (Free.ext (K := c.K) (r := r1) (n := h1.next) (u := .own x) (.inl ndx))
      have xb := (Free.extN (K := c.K) (r := r1) (n := h1.next) (u := .ins (ca c.K cn) dx []) (.inl nx'))
      have S2 : Sim c.K (rn r1 h1.next x) (h1.new (.ins cn [])) (upd (upd H1 dx (.own x)) x (.ins (ca c.K cn) dx [])) := (S1.grow ndx).new nx' rfl ⟨dx, [], upd_same, rfl, .nil⟩
      have xx := xa.trans xb
      have ev0 : V.ref x = .ref (rn r1 h1.next x h1.next) := by rw [rn_at]
      rcases bnd_cases e1 with ⟨d, h2, e2, e3⟩ | ⟨kk, e2, e3⟩
      · refine k.sp f _ _ _ h2 e2 _ _ _ _ _ S2 (.cons (by rw [ev0]; exact .ref (Nat.lt_succ_self _)) (q1.ext xx)) ?_
        intro v r3 H3 S3 x3 q3
        cases q3 with
        | non =>
          cases e3
          refine ⟨rfl, p1 (.ref x) r3 H3 S3 (xx.trans x3) ?_⟩
          rw [ev0, ← x3.at_ h1.next (Nat.lt_succ_self _)]
          exact .ref (Nat.lt_of_lt_of_le (Nat.lt_succ_self _) x3.le)
        | _ => cases e3
      · subst e3
        refine k.sp f _ _ _ h' e2 _ _ _ _ _ S2 (.cons (by rw [ev0]; exact .ref (Nat.lt_succ_self _)) (q1.ext xx)) ?_
        exact fun r3 H3 S3 x3 => p1 r3 H3 S3 (xx.trans x3)
    · cases e1
  | .bi b es => by
    intro c k env h res h' e r σ H Q S en p
    simp only [ev] at e
    exact s1A (sA cl es) k e S en p fun x h1 v r1 H1 e1 S1 x1 q1 en1 p1 => s_bi S1 q1 e1 p1
  | .bm b o es => by
    intro c k env h res h' e r σ H Q S en p
    simp only [ev] at e
    refine s1 (sE cl o) k e S en p fun x h1 v r1 H1 e1 S1 x1 q1 en1 p1 => ?_
    split at e1
    · rename_i hr
      exact ⟨s_rcv S1 q1 hr, s1A (sA cl es) k e1 S1 en1 p1 fun vs h2 us r2 H2 e2 S2 x2 q2 en2 p2 => s_bm S2 (q1.ext x2) q2 e2 p2⟩
    · cases e1
  | .gix x a => by
    intro c k env h res h' e r σ H Q S en p
    simp only [ev] at e
    split at e
    · rename_i xs hx
      refine ⟨k.gt x xs hx H, ?_⟩
      refine s1 (sE cl a) k e S en p fun y h1 v r1 H1 e1 S1 x1 q1 en1 p1 => ?_
      unfold gixD at e1
      split at e1
      · rename_i ys z ey
        cases ey
        split at e1
        · rename_i zs hz
          split at e1
          · rename_i j hj
            cases e1
            cases q1
            have qg := k.gv x _ hx r1 h'.next H1
            generalize hgv : c.gv x = gvx at qg
            cases qg with
            | @tup pp vs ds hT q2 =>
              rw [q2.strs hz] at hT
              obtain ⟨f1, f2, f3⟩ := List.findIdx?_eq_some_iff_getElem.mp hj
              refine ⟨pp, zs, z, j, rfl, rfl, hT, ?_, fun m hm => ?_, s_plain S1 (.int _) p1⟩
              · rw [List.getElem?_eq_getElem f1]
                exact congrArg some (of_decide_eq_true f2)
              · intro hh
                have hml : m < zs.length := by omega
                have := f3 m hm
                rw [List.getElem?_eq_getElem hml] at hh
                simp only [Option.some.injEq] at hh
                simp [hh] at this
          · cases e1
        · cases e1
      · cases e1
    · cases e
  | .isi a t => by
    intro c k env h res h' e r σ H Q S en p
    simp only [ev] at e
    refine s1 (sE cl a) k e S en p fun x h1 v r1 H1 e1 S1 x1 q1 en1 p1 => ?_
    obtain ⟨d, e3, e4, e5⟩ := liftO_cases e1
    obtain ⟨n, e6, e7⟩ := Option.map_eq_some_iff.mp e3
    subst e4 e5 e7
    obtain ⟨t1, t2⟩ := ty_of S1 q1 e6
    exact ⟨v, .ty t.nm, _, .type t.nm, isTn n t, rfl, .ty _, t1, kit_ty (kitAll n t.nm t2 (nm_mem t)), s_plain S1 (.bl _) p1⟩
  | .isi2 a t u => by
    intro c k env h res h' e r σ H Q S en p
    simp only [ev] at e
    refine s1 (sE cl a) k e S en p fun x h1 v r1 H1 e1 S1 x1 q1 en1 p1 => ?_
    obtain ⟨d, e3, e4, e5⟩ := liftO_cases e1
    obtain ⟨n, e6, e7⟩ := Option.map_eq_some_iff.mp e3
    subst e4 e5 e7
    refine ⟨by show 2 ≤ sizeLine; rw [sizeLine_eq]; decide, fun q nq => ?_⟩
    have xq := (Free.ext (K := c.K) (r := r1) (n := h'.next) (u := .tup [.ty t.nm, .ty u.nm]) (.inl nq))
    have S2 := S1.grow (u := .tup [.ty t.nm, .ty u.nm]) nq
    obtain ⟨t1, t2⟩ := ty_of S2 (q1.ext xq) e6
    show rIsiT c.K [v, .ref q] _ Q
    refine ⟨v, q, _, _, [.type t.nm, .type u.nm], isTn n t || isTn n u, rfl, upd_same, .cons (.ty _) (.cons (.ty _) .nil), t1, ?_, p1 _ r1 _ S2 xq (.bl _)⟩
    refine kitAny_cons (kit_ty (kitAll n t.nm t2 (nm_mem t))) (fun h1 => kitAny_cons (kit_ty (kitAll n u.nm t2 (nm_mem u))) (fun h2 => ?_) fun h2 => ?_) fun h1 => ?_
    · rw [kitAny_nil]
      unfold isTn
      rw [h1, h2]
      rfl
    · unfold isTn
      rw [h1, h2]
      rfl
    · unfold isTn
      rw [h1]
      rfl
  | .comp elt own g kk es tst => by
    intro c k env h res h' e r σ H Q S en p
    simp only [ev] at e
    refine s1A (sA cl es) k e S en p fun ds h1 vs r1 H1 e1 S1 x1 q1 en1 p1 => ?_
    split at e1
    · rename_i items gd hw
      split at e1
      · rename_i hg
        refine s_walk S1 q1 hw fun J G => ?_
        intro a ha
        have xn := (Free.extN (K := c.K) (r := r1) (n := h1.next) (u := .lst []) (.inl ha))
        have S2 : Sim c.K (rn r1 h1.next a) (h1.new (.lst [])) (upd H1 a (.lst [])) := S1.new ha rfl ⟨[], upd_same, .nil⟩
        have hg2 : ∀ i ∈ g.is, i ∈ own := by
          cases g with
          | name i =>
            intro j hj
            cases List.mem_singleton.mp hj
            exact List.contains_iff_mem.mp hg
          | tup is => exact fun j hj => List.contains_iff_mem.mp (List.all_eq_true.mp hg j hj)
        have key := s_comp (sE cl elt) (sT cl tst) k G hg2 S2 xn (Nat.lt_succ_self _) (en1.ext xn) e1 (p1.later xn)
        rw [rn_at] at key
        exact key
      · cases e1
    · cases e1
  | .cpx elt own g kk es tst => by
    intro c k env h res h' e r σ H Q S en p
    simp only [ev] at e
    refine s1A (sA cl es) k e S en p fun ds h1 vs r1 H1 e1 S1 x1 q1 en1 p1 => ?_
    split at e1
    · rename_i items gd hw
      split at e1
      · rename_i hg
        refine s_walk S1 q1 hw fun J G => ?_
        intro a ha
        have xn := (Free.extN (K := c.K) (r := r1) (n := h1.next) (u := .lst []) (.inl ha))
        have S2 : Sim c.K (rn r1 h1.next a) (h1.new (.lst [])) (upd H1 a (.lst [])) := S1.new ha rfl ⟨[], upd_same, .nil⟩
        have hg2 : ∀ i ∈ g.is, i ∈ own := by
          cases g with
          | name i =>
            intro j hj
            cases List.mem_singleton.mp hj
            exact List.contains_iff_mem.mp hg
          | tup is => exact fun j hj => List.contains_iff_mem.mp (List.all_eq_true.mp hg j hj)
        have key := s_compX (sE cl elt) (sT cl tst) k G hg2 S2 xn (Nat.lt_succ_self _) (en1.ext xn) e1 (p1.later xn)
        rw [rn_at] at key
        exact key
      · cases e1
    · cases e1
  | .fst es => by
    intro c k env h res h' e r σ H Q S en p
    simp only [ev] at e
    exact sJ cl es c k env h res h' Str.empty e r σ H Q S en p
  | .fmt a => by
    intro c k env h res h' e r σ H Q S en p
    simp only [ev] at e
    refine s1 (sE cl a) k e S en p fun x h1 v r1 H1 e1 S1 x1 q1 en1 p1 => ?_
    split at e1
    · rename_i y
      split at e1
      · rename_i hl
        cases e1
        cases q1
        exact .inl ⟨y, rfl, lim_le hl, s_plain S1 (.str _) p1⟩
      · cases e1
    · rename_i i
      split at e1
      · rename_i hl
        cases e1
        cases q1
        exact .inr ⟨i, rfl, Nat.lt_of_lt_of_le (PySem.Flt.log2_lt_of (show 0 < 250 by decide) (natAbs_big hl)) (by decide), s_plain S1 (.str _) p1⟩
      · cases e1
    · cases e1
  | .rsl a => by
    intro c k env h res h' e r σ H Q S en p
    simp only [ev] at e
    refine s1 (sE cl a) k e S en p fun x h1 v r1 H1 e1 S1 x1 q1 en1 p1 => ?_
    split at e1
    · rename_i xs hx
      cases e1
      obtain ⟨pp, us, ev, e2, e3⟩ := lstOf_of S1 q1 hx
      subst ev
      exact ⟨pp, us, rfl, e2, s_newlist S1 (RepL.rev e3) p1⟩
    · cases e1
  | .dictT => by
    intro c k env h res h' e r σ H Q S en p
    simp only [ev] at e
    cases e
    intro a ha
    have x1 := (Free.extN (K := c.K) (r := r) (n := h.next) (u := .dT []) (.inl ha))
    have S1 : Sim c.K (rn r h.next a) (h.new (.dit [])) (upd H a (.dT [])) := S.new ha rfl ⟨[], upd_same, rfl, .nil⟩
    have q := p (.ref (rn r h.next a h.next)) _ _ S1 x1 (.ref (Nat.lt_succ_self _))
    rw [rn_at] at q
    exact q
  | .dgtT a es => by
    intro c k env h res h' e r σ H Q S en p
    simp only [ev] at e
    refine s1 (sE cl a) k e S en p fun x h1 v r1 H1 e1 S1 x1 q1 en1 p1 => s1A (sA cl es) k e1 S1 en1 p1 fun ks h2 us r2 H2 e2 S2 x2 q2 en2 p2 => ?_
    have q1' := q1.ext x2
    cases q1' with
    | @ref a la =>
      simp only at e2
      split at e2
      · rename_i hl
        split at e2
        · rename_i d hd
          cases e2
          refine ⟨by rw [q2.len]; exact lim_le hl, fun q nq => ?_⟩
          have xq := (Free.ext (K := c.K) (r := r2) (n := h'.next) (u := .tup us) (.inl nq))
          have S3 := S2.grow (u := .tup us) nq
          obtain ⟨u, g, g1, _⟩ := dgetT_of S3 (q2.ext xq) hd (b := q) upd_same
          obtain ⟨z, ez, qz⟩ := g1 _ rfl
          subst ez
          exact ⟨_, z, rfl, g, p2 z r2 _ S3 xq qz⟩
        · cases e2
      · cases e2
    | _ => cases e2
  | .getT a es d => by
    intro c k env h res h' e r σ H Q S en p
    simp only [ev] at e
    refine s1 (sE cl a) k e S en p fun x h1 v r1 H1 e1 S1 x1 q1 en1 p1 => ?_
    cases q1 with
    | @ref a la =>
      simp only at e1
      split at e1
      · rename_i o0 h0
        refine ⟨_, rfl, isD_of S1 h0, ?_⟩
        refine s1A (sA cl es) k e1 S1 en1 p1 fun ks h2 us r2 H2 e2 S2 x2 q2 en2 p2 => ?_
        have er : r2 a = r1 a := x2.at_ a la
        split at e2
        · rename_i hl
          split at e2
          · rename_i d hd
            cases e2
            refine ⟨by rw [q2.len]; exact lim_le hl, fun q nq => ?_⟩
            have xq := (Free.ext (K := c.K) (r := r2) (n := h'.next) (u := .tup us) (.inl nq))
            have S3 := S2.grow (u := .tup us) nq
            obtain ⟨u, g, g1, _⟩ := dgetT_of S3 (q2.ext xq) hd (b := q) upd_same
            obtain ⟨z, ez, qz⟩ := g1 _ rfl
            subst ez
            rw [er] at g
            exact ⟨_, g, p2 z r2 _ S3 xq qz⟩
          · rename_i hd
            cases e2
            refine ⟨by rw [q2.len]; exact lim_le hl, fun q nq => ?_⟩
            have xq := (Free.ext (K := c.K) (r := r2) (n := h'.next) (u := .tup us) (.inl nq))
            have S3 := S2.grow (u := .tup us) nq
            obtain ⟨u, g, _, g2⟩ := dgetT_of S3 (q2.ext xq) hd (b := q) upd_same
            rw [g2 rfl, er] at g
            exact ⟨_, g, p2 _ r2 _ S3 xq (repCst _ _ _ _ d)⟩
          · cases e2
        · cases e2
      · cases e1
    | _ => cases e1
  | .lck i a => by
    intro c k env h res h' e r σ H Q S en p
    simp only [ev] at e
    split at e
    · rename_i a0 ha0
      split at e
      · rename_i o ho
        split at e
        · rename_i o' hl
          obtain ⟨x, h2, e1, e2⟩ := bndN_cases e
          split at e2
          · rename_i hf
            cases e2
            obtain ⟨u, h1, m, L⟩ := S.lock ho hl
            refine ⟨r a0, u, h1, (dct_mut m).2, fun od => ?_⟩
            obtain ⟨S1, L2⟩ := L od
            have f : Free H (r a0) := S.free ho (by cases o <;> first | rfl | cases hl)
            refine sE cl a c k env _ _ h2 e1 r σ _ _ S1 (en.ext f.ext) ?_
            intro v r2 H2 S2 x2 q2
            obtain ⟨er, hd, S3, x3, x4⟩ := L2 r2 h2 H2 S2 x2 hf
            exact ⟨hd, p v r2 _ S3 x3 (q2.ext0 x4)⟩
          · cases e2
        · cases e
      · cases e
    · cases e
  | .isx i cm => by
    intro c k env h res h' e r σ H Q S en p
    simp only [ev] at e
    split at e
    · rename_i kk a he
      split at e
      · rename_i hx
        obtain ⟨d, e3, e4, e5⟩ := liftO_cases e
        obtain ⟨b, e6, e7⟩ := Option.map_eq_some_iff.mp e3
        subst e4 e5 e7
        obtain ⟨x1, x2, x3⟩ := k.xk _ _ hx
        obtain ⟨C, ko⟩ := k.exs _ _ _ e6
        obtain ⟨v, hv, rv⟩ := en.at_ _ _ he
        cases rv
        exact ⟨_, x2, x3, C, by rw [x1]; exact hv, b, ko, s_plain S (.bl _) p⟩
      · cases e
    · cases e
  | .isxB i cm => by
    intro c k env h res h' e r σ H Q S en p
    simp only [ev] at e
    split at e
    · rename_i kk a he
      split at e
      · rename_i hx
        obtain ⟨d, e3, e4, e5⟩ := liftO_cases e
        obtain ⟨b, e6, e7⟩ := Option.map_eq_some_iff.mp e3
        subst e4 e5 e7
        obtain ⟨x1, x2, x3⟩ := k.xk _ _ hx
        obtain ⟨C, ko⟩ := k.exb _ _ _ e6
        obtain ⟨v, hv, rv⟩ := en.at_ _ _ he
        cases rv
        exact ⟨_, x2, x3, C, by rw [x1]; exact hv, b, ko, s_plain S (.bl _) p⟩
      · cases e
    · cases e
  | .lrg a => by
    intro c k env h res h' e r σ H Q S en p
    simp only [ev] at e
    refine s1 (sE cl a) k e S en p fun x h1 v r1 H1 e1 S1 x1 q1 en1 p1 => ?_
    split at e1
    · rename_i n
      split at e1
      · rename_i hn
        cases e1
        cases q1
        refine ⟨n, rfl, RgOk.of_le (by omega) (by omega) (by omega) (by omega), ?_⟩
        have eq : rgV 0 n = (List.range n.toNat).map fun (i : Nat) => V.int (i : Int) := by
          unfold rgV
          simp
        rw [eq]
        refine s_newlist S1 ?_ p1
        have := repInts (K := c.K) (r := r1) (n := h1.next) (H := H1) ((List.range n.toNat).map fun (i : Nat) => (i : Int))
        simpa only [List.map_map, Function.comp_def] using this
      · cases e1
    · cases e1
  | .iso a cm => by
    intro c k env h res h' e r σ H Q S en p
    simp only [ev] at e
    refine s1 (sE cl a) k e S en p fun x h1 v r1 H1 e1 S1 x1 q1 en1 p1 => ?_
    split at e1
    · rename_i kk
      obtain ⟨d, e3, e4, e5⟩ := liftO_cases e1
      obtain ⟨b, e6, e7⟩ := Option.map_eq_some_iff.mp e3
      subst e4 e5 e7
      obtain ⟨C, ko⟩ := k.exs _ _ _ e6
      cases q1 with
      | xob k1 ha hz hf => exact ⟨_, _, _, _, _, b, rfl, ha, hz, hf, C, (fun u ru => by cases ru; rfl), ko, s_plain S1 (.bl _) p1⟩
    · cases e1
  | .isoB a cm => by
    intro c k env h res h' e r σ H Q S en p
    simp only [ev] at e
    refine s1 (sE cl a) k e S en p fun x h1 v r1 H1 e1 S1 x1 q1 en1 p1 => ?_
    split at e1
    · rename_i kk
      obtain ⟨d, e3, e4, e5⟩ := liftO_cases e1
      obtain ⟨b, e6, e7⟩ := Option.map_eq_some_iff.mp e3
      subst e4 e5 e7
      obtain ⟨C, ko⟩ := k.exb _ _ _ e6
      cases q1 with
      | xob k1 ha hz hf => exact ⟨_, _, _, _, _, b, rfl, ha, hz, hf, C, (fun u ru => ru), ko, s_plain S1 (.bl _) p1⟩
    · cases e1
  | .isc a cm => by
    intro c k env h res h' e r σ H Q S en p
    simp only [ev] at e
    refine s1 (sE cl a) k e S en p fun x h1 v r1 H1 e1 S1 x1 q1 en1 p1 => ?_
    split at e1
    · rename_i pp
      split at e1
      · rename_i c1 fs hp
        obtain ⟨d, e3, e4, e5⟩ := liftO_cases e1
        obtain ⟨b, e6, e7⟩ := Option.map_eq_some_iff.mp e3
        subst e4 e5 e7
        have J := k.sub _ _ _ e6
        cases q1 with
        | @ref _ lp =>
          obtain ⟨dx, ws, ho, _⟩ := (S1.obj pp _ hp).2
          exact ⟨_, .ref (ca c.K cm), _, .ref (ca c.K cm), b, rfl, .own _, .base (.ins ho J.cl J.ha J.hn J.htk J.hm), J.one, s_plain S1 (.bl _) p1⟩
      · cases e1
    · cases e1
  | .new0 cn => by
    intro c k env h res h' e r σ H Q S en p
    simp only [ev] at e
    cases e
    intro x dx nx ndx ne
    have nx' : upd H dx (.own x) x = none := by rw [upd_ne ne.symm]; exact nx
    have xa := (Free.ext (K := c.K) (r := r) (n := h.next) (u := .own x) (.inl ndx))
    have xb := (Free.extN (K := c.K) (r := r) (n := h.next) (u := .ins (ca c.K cn) dx []) (.inl nx'))
    have S2 : Sim c.K (rn r h.next x) (h.new (.ins cn [])) (upd (upd H dx (.own x)) x (.ins (ca c.K cn) dx [])) := (S.grow ndx).new nx' rfl ⟨dx, [], upd_same, rfl, .nil⟩
    have q := p (.ref (rn r h.next x h.next)) _ _ S2 (xa.trans xb) (.ref (Nat.lt_succ_self _))
    rw [rn_at] at q
    exact q
theorem sA (cl : Cl) : ∀ e : Es, SA cl e
  | .nil => by
    intro c k env h res h' e r σ H Q S en p
    simp only [evs] at e
    cases e
    exact p [] r H S Ext.refl .nil
  | .cons a es => by
    intro c k env h res h' e r σ H Q S en p
    simp only [evs] at e
    refine s1 (sE cl a) k e S en p fun x h1 v r1 H1 e1 S1 x1 q1 en1 p1 => s1A (sA cl es) k e1 S1 en1 p1 fun xs h2 vs r2 H2 e2 S2 x2 q2 en2 p2 => ?_
    cases e2
    exact p2 _ r2 H2 S2 Ext.refl (.cons (q1.ext x2) q2)
theorem sO (cl : Cl) : ∀ e : Eo, SO cl e
  | .none => by
    intro c k env h res h' e r σ H Q S en p
    simp only [evO] at e
    cases e
    exact p none r H S Ext.refl rfl
  | .some a => by
    intro c k env h res h' e r σ H Q S en p
    simp only [evO] at e
    refine s1 (sE cl a) k e S en p fun x h1 v r1 H1 e1 S1 x1 q1 en1 p1 => ?_
    cases q1 with
    | int i => cases e1; exact ⟨i, rfl, p1 _ r1 H1 S1 Ext.refl rfl⟩
    | _ => cases e1
theorem sT (cl : Cl) : ∀ e : T, ST cl e
  | .yes => by
    intro c k env h res h' e r σ H Q S en p
    simp only [evT] at e
    cases e
    exact p true r H S Ext.refl rfl
  | .cmp o a b => by
    intro c k env h res h' e r σ H Q S en p
    simp only [evT] at e
    refine s1 (sE cl a) k e S en p fun x h1 v r1 H1 e1 S1 x1 q1 en1 p1 => s1 (sE cl b) k e1 S1 en1 p1 fun y h2 w r2 H2 e2 S2 x2 q2 en2 p2 => ?_
    obtain ⟨d, e3, e4, e5⟩ := liftO_cases e2
    subst e4 e5
    exact s_cmp S2 (q1.ext x2) q2 e3 ⟨d, rfl, p2 d r2 H2 S2 Ext.refl rfl⟩
  | .chn o o' a b d => by
    intro c k env h res h' e r σ H Q S en p
    simp only [evT] at e
    refine s1 (sE cl a) k e S en p fun x h1 v r1 H1 e1 S1 x1 q1 en1 p1 => s1 (sE cl b) k e1 S1 en1 p1 fun y h2 w r2 H2 e2 S2 x2 q2 en2 p2 => ?_
    split at e2
    · rename_i hc
      refine s_cmp S2 (q1.ext x2) q2 hc ⟨true, rfl, ?_⟩
      rw [if_pos rfl]
      refine s1 (sE cl d) k e2 S2 en2 p2 fun z h3 u r3 H3 e3 S3 x3 q3 en3 p3 => ?_
      obtain ⟨d, e4, e5, e6⟩ := liftO_cases e3
      subst e5 e6
      exact s_cmp S3 (q2.ext x3) q3 e4 ⟨d, rfl, p3 d r3 H3 S3 Ext.refl rfl⟩
    · rename_i hc
      cases e2
      refine s_cmp S2 (q1.ext x2) q2 hc ⟨false, rfl, ?_⟩
      rw [if_neg Bool.false_ne_true]
      exact ⟨false, rfl, p2 false r2 H2 S2 Ext.refl rfl⟩
    · cases e2
  | .and a b => by
    intro c k env h res h' e r σ H Q S en p
    simp only [evT] at e
    refine s1T (sT cl a) k e S en p fun x h1 r1 H1 e1 S1 x1 en1 p1 => ?_
    cases x with
    | true => rw [if_pos rfl] at e1 ⊢; exact sT cl b c k env h1 _ h' e1 r1 σ H1 Q S1 en1 p1
    | false =>
      rw [if_neg Bool.false_ne_true] at e1 ⊢
      cases e1
      exact p1 _ r1 H1 S1 Ext.refl rfl
  | .or a b => by
    intro c k env h res h' e r σ H Q S en p
    simp only [evT] at e
    refine s1T (sT cl a) k e S en p fun x h1 r1 H1 e1 S1 x1 en1 p1 => ?_
    cases x with
    | true =>
      rw [if_pos rfl] at e1 ⊢
      cases e1
      exact p1 _ r1 H1 S1 Ext.refl rfl
    | false => rw [if_neg Bool.false_ne_true] at e1 ⊢; exact sT cl b c k env h1 _ h' e1 r1 σ H1 Q S1 en1 p1
  | .not a => by
    intro c k env h res h' e r σ H Q S en p
    simp only [evT] at e
    refine s1T (sT cl a) k e S en p fun x h1 r1 H1 e1 S1 x1 en1 p1 => ?_
    cases e1
    exact p1 _ r1 H1 S1 Ext.refl rfl
  | .tru a => by
    intro c k env h res h' e r σ H Q S en p
    simp only [evT] at e
    refine s1 (sE cl a) k e S en p fun x h1 v r1 H1 e1 S1 x1 q1 en1 p1 => ?_
    obtain ⟨d, e3, e4, e5⟩ := liftO_cases e1
    subst e4 e5
    exact ⟨d, s_tru S1 q1 e3, p1 d r1 H1 S1 Ext.refl rfl⟩
end
end Z

set_option maxRecDepth 100000
set_option maxHeartbeats 2000000
namespace Z
open PySem L2

def gSeq (K : PySem.W.Frag) (is : List Nat) : TG := fun v σ H Q => gTup K is.length (gsR is) v σ H Q ∨ gLst K is.length (gsR is) v σ H Q
theorem zg_seq {X : Cx} {es : List Expr} {k : Nat} {is : List Nat} {pos : Pos} (hc : X.calm = true) (h : PGs X es (gsR is))
    (hn : (assignEach es X.env).length = is.length := by rfl) (hst : (assignEach es X.env).findIdx? (·.1) = none := by rfl) : L2.PG X (.Tuple es k pos) (gSeq X.K is) := by
  refine ⟨fun pins s σ H v u Q I r hw => ?_⟩
  rcases hw with hw | hw
  · exact (pg_tup hc h hn hst).run pins s σ H v u Q I r hw
  · exact (pg_lst hc h hn hst).run pins s σ H v u Q I r hw
def rGetL : V → V → Hp → VK → Prop := fun o i H Q => ∃ (p : Addr) (xs : List V) (k : Int) (v : V), o = .ref p ∧ i = .int k ∧ 0 ≤ k ∧ H p = some (.lst xs) ∧ xs[k.toNat]? = some v ∧ Q v H
def rAug : Bop → V → V → Hp → VK → Prop
  | .add => fun x y H Q => ∃ i j, x = .int i ∧ y = .int j ∧ Q (.int (i + j)) H
  | .sub => fun x y H Q => ∃ i j, x = .int i ∧ y = .int j ∧ Q (.int (i - j)) H
  | _ => fun _ _ _ _ => False
def rdS (c : RC) : S → TS
  | .skip => tNext
  | .seq a b => tSeq (rdS c a) (rdS c b)
  | .asg i e => tAsg (rdE c e) (gName i)
  | .unp is e => tAsg (rdE c e) (gSeq c.K is)
  | .sfld o f e => sFld c.K (rdE c o) (rdE c e) (Str.ofString f)
  | .sidx o i e => tAsg (rdE c e) (gSub (rdE c o) (rdE c i) rSetL)
  | .dput o i e => sDPut (rdE c o) (rdE c i) (rdE c e)
  | .aug i o e => tAug i (rdE c e) (rAug o)
  | .augf o f op e => sFldAug c.K (rdE c o) (rdE c e) (rAug op) (Str.ofString f)
  | .augi o i op e => tAugS (rdE c o) (rdE c i) (rdE c e) rGetL (rAug op) rSetL
  | .ite t a b => tIfS (rdT c t) (rdS c a) (rdS c b)
  | .for_ g k es body => tFor (rdI c.K k (rdA c es)) (rdG c.K g) (rdS c body)
  | .wh t body => tWhile (rdT c t) (rdS c body)
  | .ret e => tRet (rdE c e)
  | .drop e => tDrop (rdE c e)
  | .rai cn => fun _ σ H => c.W (.ref (ca c.K cn)) none σ H
  | .try_ b cn x s => (match x with
    | none => fun D σ H => rdS (c.with (wOnly c.K (.ref (ca c.K cn)) (fun _ _ _ => rdS (c.with noW) s) c.W D)) b D σ H
    | some i => fun D σ H => rdS (c.with (wAs c.K (.ref (ca c.K cn)) i (fun a cls d D σ H => ∃ k, cls = .ref (ca c.K k) ∧ rdS (c.exc k a cls d) s D σ H) c.W D)) b D σ H)
  | .tryK b cn i j => fun D σ H => rdS (c.with (Kept.wish c.K (.ref (ca c.K cn)) i (fun _ => tAsg (tVar i) (gName j)) D)) b D σ H
  | .dputT o es e => sDPut (rdE c o) (tTup (rdA c es)) (rdE c e)
  | .lck _ s => tLock (rdS c s)
  | .par i j es => tPar i j (rdA c es)

def PS' (c : RC) (r : Rho) (h : Hm) (H : Hp) (D : Ends) (env' : Env) (h' : Hm) : Fl → Prop
  | .nx => ∀ σ' r' H', Sim c.K r' h' H' → Ext c.K r h.next H r' h'.next H' → EnvR c.K r' h'.next H' σ' env' → D.nx σ' H'
  | .rt d => ∀ v r' H', Sim c.K r' h' H' → Ext c.K r h.next H r' h'.next H' → RepV c.K r' h'.next H' v d → D.rt v H'
  | .ex k => ∀ σ' r' H', Sim c.K r' h' H' → Ext c.K r h.next H r' h'.next H' → EnvR c.K r' h'.next H' σ' env' → c.W (.ref (ca c.K k)) none σ' H'
section
variable {cl : Cl} {c : RC} {env env' : Env} {h h' h1 : Hm} {r r1 : Rho} {σ : L2.St} {H H1 : Hp} {D : Ends} {fl : Fl}
theorem PS'.later (p : PS' c r h H D env' h' fl) (e : Ext c.K r h.next H r1 h1.next H1) : PS' c r1 h1 H1 D env' h' fl := by
  cases fl with
  | nx => exact fun σ' r' H' S x q => p σ' r' H' S (e.trans x) q
  | rt d => exact fun v r' H' S x q => p v r' H' S (e.trans x) q
  | ex k => exact fun σ' r' H' S x q => p σ' r' H' S (e.trans x) q
def SS (cl : Cl) (s : Z.S) : Prop := ∀ (c : RC), RCok c cl → ∀ env h fl env' h', ex c.P cl s env h = some (fl, env', h') → ∀ r σ H D, Sim c.K r h H → EnvR c.K r h.next H σ env → PS' c r h H D env' h' fl → rdS c s D σ H
theorem toS_cases {α : Type} {m : Res α} {f : α → Hm → Out} (e : toS m env f = some (fl, env', h')) : (∃ x h1, m = some (.ok x, h1) ∧ f x h1 = some (fl, env', h')) ∨ ∃ k, m = some (.error k, h') ∧ fl = .ex k ∧ env' = env := by
  match m, e with
  | some (.ok x, h1), e => exact .inl ⟨x, h1, rfl, e⟩
  | some (.error k, h1), e => cases e; exact .inr ⟨k, rfl, rfl, rfl⟩
theorem t1 {a : E} (k : RCok c cl) {f : Z.D → Hm → Out} (e : toS (ev c.P cl a env h) env f = some (fl, env', h')) (S : Sim c.K r h H) (en : EnvR c.K r h.next H σ env) (p : PS' c r h H D env' h' fl) {Q : VK}
    (w : ∀ x h1 v r1 H1, f x h1 = some (fl, env', h') → Sim c.K r1 h1 H1 → Ext c.K r h.next H r1 h1.next H1 → RepV c.K r1 h1.next H1 v x → EnvR c.K r1 h1.next H1 σ env → PS' c r1 h1 H1 D env' h' fl → Q v H1) : rdE c a σ H Q := by
  rcases toS_cases e with ⟨x, h1, e1, e2⟩ | ⟨kk, e1, e2, e3⟩
  · exact sE cl a c k env h _ h1 e1 r σ H Q S en fun v r1 H1 S1 x1 q1 => w x h1 v r1 H1 e2 S1 x1 q1 (en.ext x1) (p.later x1)
  · subst e2 e3
    exact sE cl a c k env' h _ h' e1 r σ H Q S en fun r' H' S' x' => p σ r' H' S' x' (en.ext x')
theorem t1T {a : T} (k : RCok c cl) {f : Bool → Hm → Out} (e : toS (evT c.P cl a env h) env f = some (fl, env', h')) (S : Sim c.K r h H) (en : EnvR c.K r h.next H σ env) (p : PS' c r h H D env' h' fl) {Q : Bool → Hp → Prop}
    (w : ∀ x h1 r1 H1, f x h1 = some (fl, env', h') → Sim c.K r1 h1 H1 → Ext c.K r h.next H r1 h1.next H1 → EnvR c.K r1 h1.next H1 σ env → PS' c r1 h1 H1 D env' h' fl → Q x H1) : rdT c a σ H Q := by
  rcases toS_cases e with ⟨x, h1, e1, e2⟩ | ⟨kk, e1, e2, e3⟩
  · refine sT cl a c k env h _ h1 e1 r σ H Q S en fun v r1 H1 S1 x1 q1 => ?_
    subst q1
    exact w v h1 r1 H1 e2 S1 x1 (en.ext x1) (p.later x1)
  · subst e2 e3
    exact sT cl a c k env' h _ h' e1 r σ H Q S en fun r' H' S' x' => p σ r' H' S' x' (en.ext x')
theorem t1A {a : Es} (k : RCok c cl) {f : List Z.D → Hm → Out} (e : toS (evs c.P cl a env h) env f = some (fl, env', h')) (S : Sim c.K r h H) (en : EnvR c.K r h.next H σ env) (p : PS' c r h H D env' h' fl) {Q : List V → Hp → Prop}
    (w : ∀ x h1 v r1 H1, f x h1 = some (fl, env', h') → Sim c.K r1 h1 H1 → Ext c.K r h.next H r1 h1.next H1 → RepL c.K r1 h1.next H1 v x → EnvR c.K r1 h1.next H1 σ env → PS' c r1 h1 H1 D env' h' fl → Q v H1) : rdA c a σ H Q := by
  rcases toS_cases e with ⟨x, h1, e1, e2⟩ | ⟨kk, e1, e2, e3⟩
  · exact sA cl a c k env h _ h1 e1 r σ H Q S en fun v r1 H1 S1 x1 q1 => w x h1 v r1 H1 e2 S1 x1 q1 (en.ext x1) (p.later x1)
  · subst e2 e3
    exact sA cl a c k env' h _ h' e1 r σ H Q S en fun r' H' S' x' => p σ r' H' S' x' (en.ext x')
theorem s_aug {o : Bop} {x y z : Z.D} {v w : V} {n : Nat} {Q : VK} (e : augD o x y = some z) (qx : RepV c.K r n H v x) (qy : RepV c.K r n H w y) (p : ∀ u, RepV c.K r n H u z → Q u H) : rAug o v w H Q := by
  cases qx with
  | int i =>
    cases qy with
    | int j => cases o <;> first | (cases e; exact ⟨i, j, rfl, rfl, p _ (.int _)⟩) | cases e
    | _ => cases o <;> cases e
  | _ => cases qy <;> cases o <;> cases e
theorem s_for {body : Z.S} {g : Tg} {gd : List (Nat × O)} {items : List Z.D} (hB : SS cl body) (k : RCok c cl) {J : It} {n1 : Nat} (G : Gives c.K J items gd r1 n1 H1) {r0 : Rho} {h0 : Hm} {H0 : Hp} {env0 : Env} {σ0 : L2.St} (S0 : Sim c.K r0 h0 H0)
    (x0 : Ext c.K r1 n1 H1 r0 h0.next H0) (en : EnvR c.K r0 h0.next H0 σ0 env0) (e : forL (fun e1 h2 => ex c.P cl body e1 h2) g gd items env0 h0 = some (fl, env', h')) (p : PS' c r0 h0 H0 D env' h' fl) :
    ∃ W : Nat → Nat → L2.St → Hp → Prop, (∃ m, W 0 m σ0 H0) ∧ ∀ i m σ H, W i m σ H → (J.stop i H ∧ D.nx σ H) ∨ (J.go i H ∧ ∃ N : L2.St → Hp → Prop, (∀ σ' H', N σ' H' → ∃ m', m' < m ∧ W (i + 1) m' σ' H') ∧
      ∀ x H', J.yld i H x H' → rdG c.K g x σ H' fun σ2 H2 => rdS c body { D with nx := N, ct := N, bk := D.nx } σ2 H2) := by
  refine ⟨fun i m σ H => m = items.length - i ∧ i ≤ items.length ∧ ∃ r h env, Sim c.K r h H ∧ Ext c.K r0 h0.next H0 r h.next H ∧ EnvR c.K r h.next H σ env ∧
    forL (fun e1 h2 => ex c.P cl body e1 h2) g gd (items.drop i) env h = some (fl, env', h'), ⟨_, rfl, Nat.zero_le _, r0, h0, env0, S0, Ext.refl, en, e⟩, ?_⟩
  rintro i m σ H ⟨rfl, hi, r, h, env, S, x, en, e⟩
  cases hd : items[i]? with
  | none =>
    have hl : items.length ≤ i := List.getElem?_eq_none_iff.mp hd
    rw [List.drop_of_length_le hl] at e
    unfold forL at e
    split at e
    · rename_i st
      cases e
      exact .inl ⟨((G r _ H S (x0.trans x) st i).2 hl), p σ r H S x en⟩
    · cases e
  | some d =>
    have hil : i < items.length := (List.getElem?_eq_some_iff.mp hd).1
    have ed : items.drop i = d :: items.drop (i + 1) := by
      rw [List.drop_eq_getElem_cons hil]
      congr 1
      rw [List.getElem?_eq_getElem hil] at hd
      exact Option.some.inj hd
    rw [ed] at e
    unfold forL at e
    split at e
    · rename_i st
      obtain ⟨g1, g2⟩ := (G r h H S (x0.trans x) st i).1 d hd
      refine .inr ⟨g1, fun σ' H' => ∃ r h env, Sim c.K r h H' ∧ Ext c.K r0 h0.next H0 r h.next H' ∧ EnvR c.K r h.next H' σ' env ∧
        forL (fun e1 h2 => ex c.P cl body e1 h2) g gd (items.drop (i + 1)) env h = some (fl, env', h'), ?_, ?_⟩
      · rintro σ' H' ⟨r2, h2, env2, S2, x2, en2, e2⟩
        exact ⟨_, by omega, rfl, hil, r2, h2, env2, S2, x2, en2, e2⟩
      · intro y H' yl
        obtain ⟨S', x', q'⟩ := g2 y H' yl
        split at e
        · cases e
        · rename_i env1 he1
          refine s_g q' (en.ext x') he1 fun σ2 en2 _ => ?_
          have xx := x.trans x'
          cases hx : ex c.P cl body env1 h with
          | none => rw [hx] at e; cases e
          | some o =>
            obtain ⟨fl2, env2, h2⟩ := o
            rw [hx] at e
            refine hB c k env1 h fl2 env2 h2 hx r σ2 H' _ S' en2 ?_
            cases fl2 with
            | nx => exact fun σ3 r3 H3 S3 x3 en3 => ⟨r3, h2, env2, S3, xx.trans x3, en3, e⟩
            | rt d =>
              cases e
              exact fun v r3 H3 S3 x3 q3 => p v r3 H3 S3 (xx.trans x3) q3
            | ex kk =>
              cases e
              exact fun σ3 r3 H3 S3 x3 en3 => p σ3 r3 H3 S3 (xx.trans x3) en3
    · cases e
theorem s_wh {t : T} {body : Z.S} (hB : SS cl body) (k : RCok c cl) {n0 : Nat} (S : Sim c.K r h H) (en : EnvR c.K r h.next H σ env)
    (e : whl (fun e1 h1 => evT c.P cl t e1 h1) (fun e1 h1 => ex c.P cl body e1 h1) n0 env h = some (fl, env', h')) (p : PS' c r h H D env' h' fl) : tWhile (rdT c t) (rdS c body) D σ H := by
  refine ⟨fun m σ1 H1 => ∃ r1 h1 env1, Sim c.K r1 h1 H1 ∧ Ext c.K r h.next H r1 h1.next H1 ∧ EnvR c.K r1 h1.next H1 σ1 env1 ∧ whl (fun e1 h1 => evT c.P cl t e1 h1) (fun e1 h1 => ex c.P cl body e1 h1) m env1 h1 = some (fl, env', h'),
    ⟨n0, r, h, env, S, Ext.refl, en, e⟩, ?_⟩
  rintro m σ1 H1 ⟨r1, h1, env1, S1, x1, en1, e1⟩
  cases m with
  | zero => cases e1
  | succ m =>
    unfold whl at e1
    refine t1T k e1 S1 en1 (p.later x1) fun b h2 r2 H2 e2 S2 x2 en2 p2 => ?_
    cases b with
    | false =>
      rw [if_neg Bool.false_ne_true] at e2 ⊢
      cases e2
      exact p2 σ1 r2 H2 S2 Ext.refl en2
    | true =>
      rw [if_pos rfl] at e2 ⊢
      refine ⟨fun σ' H' => ∃ r1 h1 env1, Sim c.K r1 h1 H' ∧ Ext c.K r h.next H r1 h1.next H' ∧ EnvR c.K r1 h1.next H' σ' env1 ∧ whl (fun e1 h1 => evT c.P cl t e1 h1) (fun e1 h1 => ex c.P cl body e1 h1) m env1 h1 = some (fl, env', h'),
        fun σ' H' q => ⟨m, Nat.lt_succ_self _, q⟩, ?_⟩
      have xx := x1.trans x2
      cases hx : ex c.P cl body env1 h2 with
      | none => rw [hx] at e2; cases e2
      | some o =>
        obtain ⟨fl2, env2, h3⟩ := o
        rw [hx] at e2
        refine hB c k env1 h2 fl2 env2 h3 hx r2 σ1 H2 _ S2 en2 ?_
        cases fl2 with
        | nx => exact fun σ3 r3 H3 S3 x3 en3 => ⟨r3, h3, env2, S3, xx.trans x3, en3, e2⟩
        | rt d =>
          cases e2
          exact fun v r3 H3 S3 x3 q3 => p v r3 H3 S3 (xx.trans x3) q3
        | ex kk =>
          cases e2
          exact fun σ3 r3 H3 S3 x3 en3 => p σ3 r3 H3 S3 (xx.trans x3) en3
theorem ixD_of {n m : Nat} {k : Int} {j : Nat} (e : ixD n k = some j) (hn : m = n) : ixN m k = some j := by
  subst hn
  exact e
theorem dput_of {a : Nat} {x : Z.D} {z y : Z.D} {v w : V} (S : Sim c.K r h H) (qk : RepV c.K r h.next H v z) (qv : RepV c.K r h.next H w x) (e : dput h a z x = some h1) :
    ∃ H1, DPut H (r a) v w H1 ∧ Sim c.K r h1 H1 ∧ Ext c.K r h.next H r h1.next H1 := by
  unfold dput at e
  split at e
  · rename_i kvs ha
    split at e
    · rename_i hl
      obtain ⟨q, e1, e2⟩ := Option.map_eq_some_iff.mp e
      subst e2
      obtain ⟨ws, g1, g2⟩ := (S.obj a _ ha).2
      have el : ws.length = kvs.length := by simpa using congrArg List.length g2.1
      rw [key_of qk e1]
      have xx := (S.free ha rfl).ext (K := c.K) (r := r) (n := h.next) (u := .dK (putK ws q w))
      exact ⟨_, DPut.k g1 (by rw [el]; exact lim_lt hl), S.put ha rfl rfl ⟨_, upd_same, RepK.ext xx (repK_put q qv g2)⟩, xx⟩
    · cases e
  · cases e
end

section
variable {cl : Cl} {c : RC} {h h1 : Hm} {r : Rho} {H : Hp}
theorem dputT_of {a : Nat} {x : Z.D} {ks : List Z.D} {us : List V} {w : V} {b : Addr} (S : Sim c.K r h H) (qk : RepL c.K r h.next H us ks) (hb : H b = some (.tup us)) (qv : RepV c.K r h.next H w x) (e : dputT h a ks x = some h1) :
    ∃ H1, DPut H (r a) (.ref b) w H1 ∧ Sim c.K r h1 H1 ∧ Ext c.K r h.next H r h1.next H1 := by
  unfold dputT at e
  split at e
  · rename_i kvs ha
    split at e
    · rename_i hl
      obtain ⟨q, e1, e2⟩ := Option.map_eq_some_iff.mp e
      subst e2
      obtain ⟨ws, g1, g2⟩ := (S.obj a _ ha).2
      have el : ws.length = kvs.length := by simpa using congrArg List.length g2.1
      rw [keys_of qk e1] at hb
      have xx := (S.free ha rfl).ext (K := c.K) (r := r) (n := h.next) (u := .dT (putK ws q w))
      exact ⟨_, DPut.t g1 hb (by rw [el]; exact lim_lt hl), S.put ha rfl rfl ⟨_, upd_same, RepK.ext xx (repK_put q qv g2)⟩, xx⟩
    · cases e
  · cases e
end

theorem sS (cl : Cl) : ∀ s : Z.S, SS cl s
  | .skip => by
    intro c k env h fl env' h' e r σ H D S en p
    simp only [ex] at e
    cases e
    exact p σ r H S Ext.refl en
  | .seq a b => by
    intro c k env h fl env' h' e r σ H D S en p
    simp only [ex] at e
    cases hx : ex c.P cl a env h with
    | none => rw [hx] at e; cases e
    | some o =>
      obtain ⟨fl2, env2, h2⟩ := o
      rw [hx] at e
      refine sS cl a c k env h fl2 env2 h2 hx r σ H _ S en ?_
      cases fl2 with
      | nx => exact fun σ3 r3 H3 S3 x3 en3 => sS cl b c k env2 h2 fl env' h' e r3 σ3 H3 D S3 en3 (p.later x3)
      | rt d => cases e; exact p
      | ex kk => cases e; exact p
  | .asg i a => by
    intro c k env h fl env' h' e r σ H D S en p
    simp only [ex] at e
    refine t1 k e S en p fun x h1 v r1 H1 e1 S1 x1 q1 en1 p1 => ?_
    cases e1
    exact p1 _ r1 H1 S1 Ext.refl (en1.set i q1)
  | .unp is a => by
    intro c k env h fl env' h' e r σ H D S en p
    simp only [ex] at e
    refine t1 k e S en p fun x h1 v r1 H1 e1 S1 x1 q1 en1 p1 => ?_
    split at e1
    · rename_i xs hs
      split at e1
      · rename_i env1 he
        cases e1
        obtain ⟨pp, us, ev, e2, e3⟩ := seqOf_of S1 q1 hs
        subst ev
        have hl := gsR_len is xs env he
        have fin : gsR is us σ H1 D.nx := s_gs e3 en1 he fun σ1 en2 _ => p1 σ1 r1 H1 S1 Ext.refl en2
        rcases e2 with e2 | e2
        · exact .inr ⟨pp, us, rfl, e2, by rw [e3.len]; exact hl, fin⟩
        · exact .inl ⟨pp, us, rfl, e2, by rw [e3.len]; exact hl, fin⟩
      · cases e1
    · cases e1
  | .sfld o f a => by
    intro c k env h fl env' h' e r σ H D S en p
    simp only [ex] at e
    refine t1 k e S en p fun x h1 v r1 H1 e1 S1 x1 q1 en1 p1 => t1 k e1 S1 en1 p1 fun y h2 w r2 H2 e2 S2 x2 q2 en2 p2 => ?_
    cases q2 with
    | @ref a la =>
      simp only at e2
      split at e2
      · rename_i cn fs ha
        split at e2
        · rename_i hf
          cases e2
          obtain ⟨dx, ws, g1, g2⟩ := (S2.obj a _ ha).2
          obtain ⟨c1, c2⟩ := k.fld cn f hf.1
          have xx := (S2.free ha rfl).ext (K := c.K) (r := r2) (n := h2.next) (u := .ins (ca c.K cn) dx (putF (Str.ofString f) v ws))
          refine ⟨_, _, dx, ws, rfl, g1, c1, c2, by rw [repF_len g2]; exact hf.2, ?_⟩
          exact p2 σ r2 _ (S2.put ha rfl rfl ⟨dx, _, upd_same, RepF.ext xx (repF_put (q1.ext x2) g2)⟩) xx (en2.ext xx)
        · cases e2
      · cases e2
    | _ => cases e2
  | .sidx o i a => by
    intro c k env h fl env' h' e r σ H D S en p
    simp only [ex] at e
    refine t1 k e S en p fun x h1 v r1 H1 e1 S1 x1 q1 en1 p1 => t1 k e1 S1 en1 p1 fun y h2 w r2 H2 e2 S2 x2 q2 en2 p2 => t1 k e2 S2 en2 p2 fun z h3 u r3 H3 e3 S3 x3 q3 en3 p3 => ?_
    have q2' := q2.ext x3
    cases q2' with
    | @ref a la =>
      cases q3 with
      | int kk =>
        simp only at e3
        split at e3
        · rename_i xs ha
          split at e3
          · rename_i j hj
            cases e3
            obtain ⟨vs, g1, g2⟩ := (S3.obj a _ ha).2
            have xx := (S3.free ha rfl).ext (K := c.K) (r := r3) (n := h3.next) (u := .lst (vs.set j v))
            refine ⟨_, vs, kk, j, rfl, rfl, g1, ixD_of hj g2.len, ?_⟩
            exact p3 σ r3 _ (S3.put ha rfl rfl ⟨_, upd_same, (g2.ext xx).set (q1.ext ((x2.trans x3).trans xx)) j⟩) xx (en3.ext xx)
          · cases e3
        · cases e3
      | _ => cases e3
    | _ => cases q3 <;> cases e3
  | .dput o i a => by
    intro c k env h fl env' h' e r σ H D S en p
    simp only [ex] at e
    refine t1 k e S en p fun x h1 v r1 H1 e1 S1 x1 q1 en1 p1 => t1 k e1 S1 en1 p1 fun y h2 w r2 H2 e2 S2 x2 q2 en2 p2 => t1 k e2 S2 en2 p2 fun z h3 u r3 H3 e3 S3 x3 q3 en3 p3 => ?_
    have q2' := q2.ext x3
    cases q2' with
    | @ref a la =>
      simp only at e3
      split at e3
      · rename_i h4 hp
        cases e3
        obtain ⟨H4, g1, g2, g3⟩ := dput_of (y := z) S3 q3 (q1.ext (x2.trans x3)) hp
        exact ⟨_, H4, rfl, g1, p3 σ r3 H4 g2 g3 (en3.ext g3)⟩
      · cases e3
    | _ => cases e3
  | .aug i o a => by
    intro c k env h fl env' h' e r σ H D S en p
    simp only [ex] at e
    split at e
    · rename_i d hd
      obtain ⟨v, e1, q⟩ := en.at_ i d hd
      refine ⟨v, e1, ?_⟩
      refine t1 k e S en p fun x h1 w r1 H1 e1 S1 x1 q1 en1 p1 => ?_
      split at e1
      · rename_i z hz
        cases e1
        exact s_aug hz (q.ext x1) q1 fun u qu => p1 _ r1 H1 S1 Ext.refl (en1.set i qu)
      · cases e1
    · cases e
  | .augf o f op a => by
    intro c k env h fl env' h' e r σ H D S en p
    simp only [ex] at e
    refine t1 k e S en p fun x h1 v r1 H1 e1 S1 x1 q1 en1 p1 => ?_
    cases q1 with
    | @ref a la =>
      simp only at e1
      split at e1
      · rename_i cn fs ha
        split at e1
        · rename_i hf
          split at e1
          · rename_i d hd
            obtain ⟨dx, ws, g1, g2⟩ := (S1.obj a _ ha).2
            obtain ⟨c1, c2⟩ := k.fld cn f hf
            obtain ⟨u, g3, g4⟩ := repF_get g2 hd
            refine ⟨_, _, dx, ws, u, rfl, g1, c1, c2, g3, ?_⟩
            refine t1 k e1 S1 en1 p1 fun y h2 w r2 H2 e2 S2 x2 q2 en2 p2 => ?_
            split at e2
            · rename_i z hz
              split at e2
              · rename_i cn' fs' ha'
                split at e2
                · rename_i hc
                  obtain ⟨rfl, hl⟩ := hc
                  cases e2
                  obtain ⟨dx', ws', g5, g6⟩ := (S2.obj a _ ha').2
                  refine s_aug hz (g4.ext x2) q2 fun u2 qu => ?_
                  have xx := (S2.free ha' rfl).ext (K := c.K) (r := r2) (n := h2.next) (u := .ins (ca c.K cn') dx' (putF (Str.ofString f) u2 ws'))
                  have er : r2 a = r1 a := x2.at_ a la
                  rw [← er]
                  refine ⟨dx', ws', g5, by rw [repF_len g6]; exact hl, ?_⟩
                  exact p2 σ r2 _ (S2.put ha' rfl rfl ⟨dx', _, upd_same, RepF.ext xx (repF_put qu g6)⟩) xx (en2.ext xx)
                · cases e2
              · cases e2
            · cases e2
          · cases e1
        · cases e1
      · cases e1
    | _ => cases e1
  | .augi o i op a => by
    intro c k env h fl env' h' e r σ H D S en p
    simp only [ex] at e
    refine t1 k e S en p fun y h1 v r1 H1 e1 S1 x1 q1 en1 p1 => t1 k e1 S1 en1 p1 fun z h2 w r2 H2 e2 S2 x2 q2 en2 p2 => ?_
    cases q1 with
    | @ref a la =>
      cases q2 with
      | int kk =>
        simp only at e2
        split at e2
        · rename_i xs ha
          split at e2
          · rename_i hk
            split at e2
            · rename_i x hx
              obtain ⟨vs, g1, g2⟩ := (S2.obj a _ ha).2
              obtain ⟨u, g3, g4⟩ := g2.get hx
              have er : r2 a = r1 a := x2.at_ a la
              rw [er] at g1
              refine ⟨r1 a, vs, kk, u, rfl, rfl, hk, g1, g3, ?_⟩
              refine t1 k e2 S2 en2 p2 fun v3 h3 w3 r3 H3 e3 S3 x3 q3 en3 p3 => ?_
              split at e3
              · rename_i w4 ys hz hy
                split at e3
                · rename_i hl
                  cases e3
                  refine s_aug hz (g4.ext x3) q3 fun u2 qu => ?_
                  obtain ⟨vs', g5, g6⟩ := (S3.obj a _ hy).2
                  have er3 : r3 a = r1 a := (x3.at_ a (Nat.lt_of_lt_of_le la x2.le)).trans er
                  have xx := (S3.free hy rfl).ext (K := c.K) (r := r3) (n := h3.next) (u := .lst (vs'.set kk.toNat u2))
                  rw [← er3]
                  refine ⟨_, vs', kk, kk.toNat, rfl, rfl, g5, ?_, ?_⟩
                  · refine ixD_of (n := ys.length) ?_ g6.len
                    unfold ixD
                    rw [if_pos hk, if_pos (by omega)]
                  · exact p3 σ r3 _ (S3.put hy rfl rfl ⟨_, upd_same, (g6.ext xx).set (qu.ext xx) _⟩) xx (en3.ext xx)
                · cases e3
              · cases e3
            · cases e2
          · cases e2
        · cases e2
      | _ => cases e2
    | _ => cases q2 <;> cases e2
  | .ite t a b => by
    intro c k env h fl env' h' e r σ H D S en p
    simp only [ex] at e
    refine t1T k e S en p fun x h1 r1 H1 e1 S1 x1 en1 p1 => ?_
    cases x with
    | true => rw [if_pos rfl] at e1 ⊢; exact sS cl a c k env h1 fl env' h' e1 r1 σ H1 D S1 en1 p1
    | false => rw [if_neg Bool.false_ne_true] at e1 ⊢; exact sS cl b c k env h1 fl env' h' e1 r1 σ H1 D S1 en1 p1
  | .for_ g kk es body => by
    intro c k env h fl env' h' e r σ H D S en p
    simp only [ex] at e
    refine t1A k e S en p fun ds h1 vs r1 H1 e1 S1 x1 q1 en1 p1 => ?_
    split at e1
    · rename_i items gd hw
      exact s_walk S1 q1 hw fun J G => s_for (sS cl body) k G S1 Ext.refl en1 e1 p1
    · cases e1
  | .wh t body => by
    intro c k env h fl env' h' e r σ H D S en p
    simp only [ex] at e
    exact s_wh (sS cl body) k S en e p
  | .ret a => by
    intro c k env h fl env' h' e r σ H D S en p
    simp only [ex] at e
    refine t1 k e S en p fun x h1 v r1 H1 e1 S1 x1 q1 en1 p1 => ?_
    cases e1
    exact p1 v r1 H1 S1 Ext.refl q1
  | .drop a => by
    intro c k env h fl env' h' e r σ H D S en p
    simp only [ex] at e
    refine t1 k e S en p fun x h1 v r1 H1 e1 S1 x1 q1 en1 p1 => ?_
    cases e1
    exact p1 σ r1 H1 S1 Ext.refl en1
  | .rai cn => by
    intro c k env h fl env' h' e r σ H D S en p
    simp only [ex] at e
    cases e
    exact p σ r H S Ext.refl en
  | .try_ b cn none s => by
    intro c k env h fl env' h' e r σ H D S en p
    simp only [ex] at e
    cases e0 : ex c.P cl b env h with
    | none => rw [e0] at e; cases e
    | some o =>
      obtain ⟨fl0, env2, h2⟩ := o
      rw [e0] at e
      show rdS (c.with (wOnly c.K (.ref (ca c.K cn)) (fun _ _ _ => rdS (c.with noW) s) c.W D)) b D σ H
      refine sS cl b (c.with (wOnly c.K (.ref (ca c.K cn)) (fun _ _ _ => rdS (c.with noW) s) c.W D)) (k.with _) env h fl0 env2 h2 e0 r σ H D S en ?_
      cases fl0 with
      | nx => cases e; exact p
      | rt d => cases e; exact p
      | ex kk =>
        dsimp only at e
        cases eb : c.P.exm kk cn with
        | none => rw [eb] at e; cases e
        | some bb =>
          rw [eb] at e
          have eo := k.exm _ _ _ eb
          intro σ' r' H' S' x' en'
          cases bb with
          | false =>
            cases e
            exact ⟨false, eo, (fun z => nomatch z), fun _ => p σ' r' H' S' x' en'⟩
          | true =>
            refine ⟨true, eo, fun _ a na => ?_, fun z => nomatch z⟩
            dsimp only at e
            cases e1 : ex c.P cl s env2 h2 with
            | none => rw [e1] at e; cases e
            | some o1 =>
              obtain ⟨fl1, env3, h3⟩ := o1
              rw [e1] at e
              have p' := p.later x'
              cases fl1 with
              | nx =>
                cases e
                exact sS cl s (c.with noW) (k.with _) env2 h2 .nx _ _ e1 r' σ' H' D S' en' p'
              | rt d =>
                cases e
                exact sS cl s (c.with noW) (k.with _) env2 h2 (.rt d) _ _ e1 r' σ' H' D S' en' p'
              | ex k2 => cases e
  | .tryK b cn i j => by
    intro c k env h fl env' h' e r σ H D S en p
    simp only [ex] at e
    cases e0 : ex c.P cl b env h with
    | none => rw [e0] at e; cases e
    | some o =>
      obtain ⟨fl0, env2, h2⟩ := o
      rw [e0] at e
      show rdS (c.with (Kept.wish c.K (.ref (ca c.K cn)) i (fun _ => tAsg (tVar i) (gName j)) D)) b D σ H
      refine sS cl b (c.with (Kept.wish c.K (.ref (ca c.K cn)) i (fun _ => tAsg (tVar i) (gName j)) D)) (k.with _) env h fl0 env2 h2 e0 r σ H D S en ?_
      cases fl0 with
      | nx => cases e; exact p
      | rt d => cases e; exact p
      | ex kk =>
        dsimp only at e
        split at e
        · rename_i hc
          obtain ⟨hc, hi, hij⟩ := hc
          cases e
          intro σ' r' H' S' x' en'
          refine ⟨k.exm _ _ _ hc, fun a oe na hz hf => ?_⟩
          refine ⟨.ref a, List.getElem?_set_self (by rw [en'.len]; exact hi), ?_⟩
          have xx := Free.ext (K := c.K) (r := r') (n := h'.next) (u := .frz oe xT) (.inl na)
          refine p _ r' (upd H' a (.frz oe xT)) (S'.grow na) (x'.trans xx) ?_
          have e2 : (env2.set j (some (.xob kk))).set i none = ((env2.set i none).set j (some (.xob kk))).set i none := by
            rw [List.set_comm _ _ hij, List.set_set]
          rw [e2]
          exact (((en'.ext xx).over i (.ref a)).set j (.xob kk upd_same hz hf)).unset i
        · cases e
  | .try_ b cn (some i) s => by
    intro c k env h fl env' h' e r σ H D S en p
    simp only [ex] at e
    cases e0 : ex c.P cl b env h with
    | none => rw [e0] at e; cases e
    | some o =>
      obtain ⟨fl0, env2, h2⟩ := o
      rw [e0] at e
      show rdS (c.with (wAs c.K (.ref (ca c.K cn)) i (fun a cls d D σ H => ∃ k, cls = .ref (ca c.K k) ∧ rdS (c.exc k a cls d) s D σ H) c.W D)) b D σ H
      refine sS cl b (c.with (wAs c.K (.ref (ca c.K cn)) i (fun a cls d D σ H => ∃ k, cls = .ref (ca c.K k) ∧ rdS (c.exc k a cls d) s D σ H) c.W D)) (k.with _) env h fl0 env2 h2 e0 r σ H D S en ?_
      cases fl0 with
      | nx => cases e; exact p
      | rt d => cases e; exact p
      | ex kk =>
        dsimp only at e
        cases eb : c.P.exm kk cn with
        | none => rw [eb] at e; cases e
        | some bb =>
          rw [eb] at e
          have eo := k.exm _ _ _ eb
          intro σ' r' H' S' x' en'
          cases bb with
          | false =>
            cases e
            exact ⟨false, eo, (fun z => nomatch z), fun _ => p σ' r' H' S' x' en'⟩
          | true =>
            refine ⟨true, eo, fun _ a na => ⟨kk, rfl, ?_⟩, fun z => nomatch z⟩
            have ea := oneA_of e a
            unfold emptied at ea
            have p' := p.later x'
            cases e1 : ex { c.P with xk := some (kk, a) } cl s (env2.set i (some (.exc kk a))) h2 with
            | none => rw [e1] at ea; cases ea
            | some o1 =>
              obtain ⟨fl1, env3, h3⟩ := o1
              rw [e1] at ea
              cases fl1 with
              | nx =>
                cases ea
                exact sS cl s (c.exc kk a (.ref (ca c.K kk)) none) (k.exc kk a) (env2.set i (some (.exc kk a))) h2 .nx _ _ e1 r' (σ'.set i (some (.ref a))) H' _ S' (en'.set i (.exc kk a)) fun σ6 r6 H6 S6 x6 en6 => p' _ r6 H6 S6 x6 (en6.unset i)
              | rt d =>
                cases ea
                exact sS cl s (c.exc kk a (.ref (ca c.K kk)) none) (k.exc kk a) (env2.set i (some (.exc kk a))) h2 (.rt d) _ _ e1 r' (σ'.set i (some (.ref a))) H' _ S' (en'.set i (.exc kk a)) p'
              | ex k2 => cases ea
  | .par i j es => by
    intro c k env h fl env' h' e r σ H D S en p
    simp only [ex] at e
    refine t1A k e S en p fun vs h1 us r1 H1 e1 S1 x1 q1 en1 p1 => ?_
    split at e1
    · rename_i x y
      obtain ⟨v, w, rfl, qv, qw⟩ := two_of q1
      cases e1
      exact ⟨v, w, rfl, p1 _ r1 H1 S1 Ext.refl ((en1.set i qv).set j qw)⟩
    · cases e1
  | .dputT o es a => by
    intro c k env h fl env' h' e r σ H D S en p
    simp only [ex] at e
    refine t1 k e S en p fun x h1 v r1 H1 e1 S1 x1 q1 en1 p1 => t1 k e1 S1 en1 p1 fun y h2 w r2 H2 e2 S2 x2 q2 en2 p2 => t1A k e2 S2 en2 p2 fun ks h3 us r3 H3 e3 S3 x3 q3 en3 p3 => ?_
    have q2' := q2.ext x3
    cases q2' with
    | @ref a0 la =>
      simp only at e3
      split at e3
      · rename_i hl
        split at e3
        · rename_i h4 hp
          cases e3
          refine ⟨by rw [q3.len]; exact lim_le hl, fun q nq => ?_⟩
          have xq := (Free.ext (K := c.K) (r := r3) (n := h3.next) (u := .tup us) (.inl nq))
          have S4 := S3.grow (u := .tup us) nq
          obtain ⟨H5, g, S5, x5⟩ := dputT_of (b := q) S4 (q3.ext xq) upd_same ((q1.ext (x2.trans x3)).ext xq) hp
          exact ⟨_, H5, rfl, g, p3 σ r3 H5 S5 (xq.trans x5) (en3.ext (xq.trans x5))⟩
        · cases e3
      · cases e3
    | _ => cases e3
  | .lck i b => by
    intro c k env h fl env' h' e r σ H D S en p
    simp only [ex] at e
    split at e
    · rename_i a0 ha0
      split at e
      · rename_i o ho
        split at e
        · rename_i o' hl
          have f : Free H (r a0) := S.free ho (by cases o <;> first | rfl | cases hl)
          obtain ⟨u, h1, m, L⟩ := S.lock ho hl
          refine ⟨r a0, u, h1, (dct_mut m).2, fun od => ?_⟩
          obtain ⟨S1, L2⟩ := L od
          split at e
          · rename_i env2 h2 e1
            split at e
            · rename_i hf
              cases e
              refine sS cl b c k env _ _ _ _ e1 r σ _ _ S1 (en.ext f.ext) ?_
              intro σ' r2 H2 S2 x2 en2
              obtain ⟨er, hd, S3, x3, x4⟩ := L2 r2 h2 H2 S2 x2 hf
              exact ⟨hd, p σ' r2 _ S3 x3 (en2.ext0 x4)⟩
            · cases e
          · rename_i d env2 h2 e1
            split at e
            · rename_i hf
              cases e
              refine sS cl b c k env _ _ _ _ e1 r σ _ _ S1 (en.ext f.ext) ?_
              intro v r2 H2 S2 x2 q2
              obtain ⟨er, hd, S3, x3, x4⟩ := L2 r2 h2 H2 S2 x2 hf
              exact ⟨hd, p v r2 _ S3 x3 (q2.ext0 x4)⟩
            · cases e
          · cases e
        · cases e
      · cases e
    · cases e

def spR (P : Prog) (K : PySem.W.Frag) (n : Nat) (f : String) : Sp := fun vs H Q E => ∃ F r h ds res h', P.fn f = some F ∧ ds.length = F.np ∧ Sim K r h H ∧ RepL K r h.next H vs ds ∧ callF P n f ds h = some (res, h') ∧ PG K E r h H (RepV K) Q res h'
theorem spR_len {P : Prog} {K : PySem.W.Frag} {n : Nat} {f : String} {F : Fn} {vs : List V} {H : Hp} {Q : VK} {E : XK} (hf : P.fn f = some F) (h : spR P K n f vs H Q E) : vs.length = F.np := by
  obtain ⟨F', r, h, ds, res, h', e1, e2, _, q, _⟩ := h
  rw [hf] at e1
  cases e1
  rw [q.len, e2]
theorem callF_np {P : Prog} {n : Nat} {f : String} {ds : List D} {h h' : Hm} {res : Except String D} (e : callF P n f ds h = some (res, h')) : ∃ F, P.fn f = some F ∧ ds.length = F.np := by
  cases n with
  | zero => cases e
  | succ n =>
    simp only [callF] at e
    split at e
    · cases e
    · rename_i F hF
      split at e
      · rename_i hl
        exact ⟨F, hF, hl⟩
      · cases e
structure Facts (P : Prog) (K : PySem.W.Frag) (gv : String → V) : Prop where
  con : ∀ x d, P.glob x = some d → ∀ r n H, RepV K r n H (gv x) d
  tup : ∀ x xs, P.glob x = some (.tup xs) → ∀ H, tyV K "tuple" (gv x) H
  fld : ∀ cn f, P.fld cn f = true → Cls K (ca K cn) ∧ NoAttr K (ca K cn) (Str.ofString f)
  sub : ∀ cn cm b, P.sub cn cm = some b → IsC K (ca K cn) (ca K cm) b
  exm : ∀ k cm b, P.exm k cm = some b → PySem.W.exmOne K (.ref (ca K k)) (.ref (ca K cm)) = some b
  exs : ∀ k cm b, P.exs k cm = some b → ExcC K (ca K k) ∧ PySem.W.kitOne K (.ref (ca K k)) (.ref (ca K cm)) = some b
  exb : ∀ k cm b, P.exb k cm = some b → ExcC K (ca K k) ∧ PySem.W.kitOne K (.ref (ca K k)) (.type cm) = some b
  nox : P.xk = none
def rc (P : Prog) (K : PySem.W.Frag) (gv : String → V) (n : Nat) (W : WX) : RC := { K := K, P := P, sp := spR P K n, gv := gv, W := W }
theorem rc_ok {P : Prog} {K : PySem.W.Frag} {gv : String → V} (F : Facts P K gv) (n : Nat) (W : WX) : RCok (rc P K gv n W) (callF P n) :=
  ⟨fun f ds h res h' e r H vs Q E S q p => by
    obtain ⟨F, h1, h2⟩ := callF_np e
    exact ⟨F, r, h, ds, res, h', h1, h2, S, q, e, p⟩, F.con, F.tup, F.fld, F.sub, F.exm, F.exs, F.exb, fun k a e => by rw [show (rc P K gv n W).P.xk = P.xk from rfl, F.nox] at e; cases e⟩
theorem body_ok {P : Prog} {K : PySem.W.Frag} {gv : String → V} (Fa : Facts P K gv) {n : Nat} {f : String} {F : Fn} (hf : P.fn f = some F) {N : List Str} (hN : N.length = F.ns) {vs : List V} {H : Hp} {Q : VK} {E : XK} (h : spR P K (n + 1) f vs H Q E) :
    rdS (rc P K gv n fun cls d _ H => E cls d H) F.body { nx := fun _ H' => Q .non H', rt := Q } (L2.start N vs) H := by
  obtain ⟨F', r, h, ds, res, h', e1, e2, S, q, e, p⟩ := h
  rw [hf] at e1
  cases e1
  simp only [callF, hf, if_pos e2] at e
  cases hx : ex P (callF P n) F.body (start F.ns ds) h with
  | none => rw [hx] at e; cases e
  | some o =>
    obtain ⟨fl, env', h2⟩ := o
    rw [hx] at e
    refine sS (callF P n) F.body _ (rc_ok Fa n _) _ h fl env' h2 hx r _ H _ S (EnvR.start q hN) ?_
    cases fl with
    | nx =>
      cases e
      exact fun σ' r' H' S' x' _ => p .non r' H' S' x' .non
    | rt d =>
      cases e
      exact p
    | ex kk =>
      cases e
      exact fun σ' r' H' S' x' _ => p r' H' S' x'
end Z

set_option maxRecDepth 100000
set_option maxHeartbeats 2000000
namespace Z
open PySem PySem.Spec PyProof.Rows L2

theorem zpL {X : Cx} : ∀ σ, PassesAt (L2.CX X.prog X.w) X σ (fun cls d H => noW cls d σ H) := fun σ pins H s e s' _ h => by
  obtain ⟨_, _, _, _, _, _, _, _, _, _, _, _, z⟩ := h
  exact z.elim
theorem zpD {P : Program} {w : World} {K : PySem.W.Frag} {mg : Str → Option Value} {base : Heap} {N : List Str} {qual : Str} {scope : Scope} {f : Addr} {cd : Value} {A : Around} {outer : List PySem.Env} {s : Shared} {H : Hp} {E : XK} :
    ∀ σ, PassesAt (L2.CX P w) (cxOf (L2.CX P w) P w K mg base N qual scope f cd A outer s H E) σ (fun cls d H' => (fun (cls : Value) (d : Option Addr) (_ : L2.St) (H : Hp) => E cls d H) cls d σ H') :=
  fun σ => passAt (X := cxOf (L2.CX P w) P w K mg base N qual scope f cd A outer s H E) (takes_of rfl rfl rfl rfl) σ
section
variable {X : Cx} {CX : CXT} {k : Nat} {f : Addr} {fd : FuncData} {ps : List Str} {dvs : List V} {sp : Sp} {E : L2.St → XK} {x m : Str} {p pos apos : Pos} {e o : Expr} {es : List Expr} {ta : TE} {t : TA}
structure Cal (P : Program) (w : World) (K : PySem.W.Frag) (mg : Str → Option Value) (base : Heap) (CX : CXT) (k : Nat) (f : Addr) (ps : List Str) (dvs : List V) (sp : Sp) : Prop where
  ex : ∃ fd ds, FnOk P w K mg base CX k f fd ps sp ∧ Vals dvs ds ∧ Binds K fd ps ds
  kp : PySem.W.keepIn K (.ref f) = true
theorem run_z {pins : List (Addr × Obj)} {σ : L2.St} {H : Hp} {s : Shared} {Q : VK} {us : List Value} {vs : List V} (C : Cal X.prog X.w X.K X.mg X.base CX k f ps dvs sp) (hr : Room k X.A) (hx : PassesAt CX X σ (E σ)) (I : Inv X pins σ H s) (r : Vals vs us) (h : sp (vs ++ dvs) H Q (E σ)) :
    wpAny (model X.prog X.w) X.A (call (.ref f) us) (EP X pins σ Q) X.xe s := by
  obtain ⟨fd, ds, F, hd, hb⟩ := C.ex
  have r2 : Vals (vs ++ dvs) (us ++ ds) := Vals.append r hd
  have len : (us ++ ds).length = ps.length := r2.length.symm.trans (F.len _ _ _ _ h)
  have run := F.run X.A X.stack s H ⟨us, []⟩ (us ++ ds) (vs ++ dvs) Q (E σ) hr I.env0 (hb s us I.kIn len) r2 h
  refine wpAny_call (codeAny_mono run fun res s' hq => ?_)
  match res, hq with
  | .error e, hq => exact hx pins H s e s' I hq
  | .ok (.ret u), hq => exact I.after hq
theorem zcall (C : Cal X.prog X.w X.K X.mg X.base CX k f ps dvs sp) (hr : Room k X.A) (hg : Gl X x) (hm : X.mg x = some (.ref f)) (hx : ∀ σ, PassesAt CX X σ (E σ)) (ha : PA X (e :: es) t) (hdb : (x == ("__debug__" : Str)) = false := by decide)
    (he : starEach (e :: es) X.env = (false, eval e X.env) :: starEach es X.env := by rfl) (hpl : (backTo pos (starEach es X.env)).any (·.1) = false := by rfl) :
    PE X (.Call (.Name x p) (e :: es) [] pos) (fun σ H Q => t σ H fun vs H1 => sp (vs ++ dvs) H1 Q (E σ)) :=
  ⟨fun pins s σ H Q I h => wpAny_Call_Name_kw (ld_glob I hg hm (PySem.W.callWith_K (h₀ := X.base) I.ok.mod.kin C.kp
    (thn (ha.run pos pins s σ H _ I h) fun us s1 ⟨vs, H1, I1, r, q⟩ => ⟨I1.kIn, run_z C hr (hx σ) I1 r q⟩) he hpl) hdb)⟩
structure Mets (Pg : Program) (w : World) (K : PySem.W.Frag) (mg : Str → Option Value) (base : Heap) (CX : CXT) (k : Nat) (P : Prog) (m : String) (dvs : List V) (sp : String → Sp) : Prop where
  ex : ∀ cn f, P.mt cn m = some f → Cls K (ca K cn) ∧ ∃ g ps, Meth K (ca K cn) (Str.ofString m) g ∧ Cal Pg w K mg base CX k g ps dvs (sp f)
structure Mkr (Pg : Program) (w : World) (K : PySem.W.Frag) (mg : Str → Option Value) (base : Heap) (CX : CXT) (k : Nat) (P : Prog) (cn : String) (sp : String → Sp) : Prop where
  ex : ∃ f g ps, P.mt cn "__init__" = some f ∧ Mk K (ca K cn) g ∧ Cal Pg w K mg base CX k g ps [] (sp f)
theorem zmeth {P : Prog} {m : String} {sp : String → Sp} {pl : Sem Bool} (ho : PE X o ta) (M : Mets X.prog X.w X.K X.mg X.base CX k P m dvs sp) (hr : Room k X.A) (hx : ∀ σ, PassesAt CX X σ (E σ)) (ha : PA X (e :: es) t)
    (hst : starEach (e :: es) X.env = (false, eval e X.env) :: starEach es X.env := by rfl) (hpl : (backTo pos (starEach es X.env)).any (·.1) = false := by rfl)
    (ht : eval (.Call (.Attribute o (Str.ofString m) apos) (e :: es) [] pos) X.env = (do
      let ov ← eval o X.env
      standAt apos.atName
      let (f, first) ← holding [ov] (getMethod ov (Str.ofString m) pl)
      callWith pos f first (backTo pos (starEach (e :: es) X.env)) (backToKw pos (keywordEach [] X.env))) := by rfl) :
    PE X (.Call (.Attribute o (Str.ofString m) apos) (e :: es) [] pos) (fun σ H Q => ta σ H fun x H1 => ∃ a dx fs cn f, x = .ref a ∧ H1 a = some (.ins (ca X.K cn) dx fs) ∧ P.mt cn m = some f ∧ fs.lookup (Str.ofString m) = none ∧
      t σ H1 fun vs H2 => sp f (x :: (vs ++ dvs)) H2 Q (E σ)) := by
  refine ⟨fun pins s σ H Q I h => PySem.W.methodCall_KW (pl := pl) (thn (ho.run pins s σ H _ I h) fun u s1 ⟨x, H1, I1, rx, q⟩ => ?_) ht⟩
  obtain ⟨a, dx, fs, cn, f, ex, ea, em, l, q⟩ := q
  subst ex
  cases (show u = Value.ref a from rx)
  obtain ⟨c, g, ps, hm, C⟩ := M.ex cn f em
  refine getmeth_ok I1 ea c hm l (PySem.W.callWith_K (first := [.ref a]) (h₀ := X.base) I.ok.mod.kin hm.kp (thn (ha.run pos pins s1 σ H1 _ I1 q) fun us s2 ⟨vs, H2, I2, r, q2⟩ => ⟨I2.kIn, ?_⟩) hst hpl)
  exact run_z (us := .ref a :: us) (vs := .ref a :: vs) C hr (hx σ) I2 (.cons rfl r) q2
theorem zmeth0 {P : Prog} {m : String} {sp : String → Sp} {pl : Sem Bool} (ho : PE X o ta) (M : Mets X.prog X.w X.K X.mg X.base CX k P m dvs sp) (hr : Room k X.A) (hx : ∀ σ, PassesAt CX X σ (E σ))
    (ht : eval (.Call (.Attribute o (Str.ofString m) apos) [] [] pos) X.env = (do
      let ov ← eval o X.env
      standAt apos.atName
      let (f, first) ← holding [ov] (getMethod ov (Str.ofString m) pl)
      callWith pos f first (backTo pos (starEach [] X.env)) (backToKw pos (keywordEach [] X.env))) := by rfl) :
    PE X (.Call (.Attribute o (Str.ofString m) apos) [] [] pos) (fun σ H Q => ta σ H fun x H1 => ∃ a dx fs cn f, x = .ref a ∧ H1 a = some (.ins (ca X.K cn) dx fs) ∧ P.mt cn m = some f ∧ fs.lookup (Str.ofString m) = none ∧
      tNil σ H1 fun vs H2 => sp f (x :: (vs ++ dvs)) H2 Q (E σ)) := by
  refine ⟨fun pins s σ H Q I h => PySem.W.methodCall_KW (pl := pl) (thn (ho.run pins s σ H _ I h) fun u s1 ⟨x, H1, I1, rx, q⟩ => ?_) ht⟩
  obtain ⟨a, dx, fs, cn, f, ex, ea, em, l, q⟩ := q
  subst ex
  cases (show u = Value.ref a from rx)
  obtain ⟨c, g, ps, hm, C⟩ := M.ex cn f em
  exact getmeth_ok I1 ea c hm l (PySem.W.callWith_K0 (first := [.ref a]) I1.kIn hm.kp (run_z (us := [.ref a]) (vs := [.ref a]) C hr (hx σ) I1 (.cons rfl .nil) q))
theorem run_mk {P : Prog} {cn : String} {sp : String → Sp} {pins : List (Addr × Obj)} {σ : L2.St} {H : Hp} {s : Shared} {Q : VK} {us : List Value} {vs : List V} (M : Mkr X.prog X.w X.K X.mg X.base CX k P cn sp) (hr : Room (k + 1) X.A) (hx : PassesAt CX X σ (E σ)) (I : Inv X pins σ H s) (r : Vals vs us)
    (h : ∀ x dx, H x = none → H dx = none → dx ≠ x → ∃ f, P.mt cn "__init__" = some f ∧ sp f (.ref x :: vs) (upd (upd H dx (.own x)) x (.ins (ca X.K cn) dx [])) (fun v H2 => v = .non ∧ Q (.ref x) H2) (E σ)) :
    wpAny (model X.prog X.w) X.A (call (.ref (ca X.K cn)) us) (EP X pins σ Q) X.xe s := by
  obtain ⟨f, g, ps, hf, M, C⟩ := M.ex
  obtain ⟨fd, ds, F, hd, hb⟩ := C.ex
  obtain ⟨f', hf', hq⟩ := h (s.heap.objs.size + 1) s.heap.objs.size (I.hok.fresh (Nat.le_succ _)) (I.hok.fresh (Nat.le_refl _)) (Nat.ne_of_lt (Nat.lt_succ_self _))
  rw [hf] at hf'
  cases hf'
  have I2 := Inv.made (C := ca X.K cn) I
  cases hd
  have r2 : Vals (V.ref (s.heap.objs.size + 1) :: vs) (Value.ref (s.heap.objs.size + 1) :: us) := .cons rfl r
  have hl : (Value.ref (s.heap.objs.size + 1) :: us ++ []).length = ps.length := by
    have e := r2.length
    rw [F.len _ _ _ _ hq] at e
    rw [List.append_nil]
    exact e.symm
  have hbb := hb _ (Value.ref (s.heap.objs.size + 1) :: us) I2.kIn hl
  rw [List.append_nil] at hbb
  refine wpAny_call (make_map (f := g) I.kIn M.makes M.init (beq_iff_eq.mp M.fn) (codeAny_mono (F.run _ X.stack _ _ ⟨Value.ref (s.heap.objs.size + 1) :: us, []⟩ (Value.ref (s.heap.objs.size + 1) :: us) _ _ (E σ) (hr.make (ca X.K cn) us [])
    (I2.env0.make (ca X.K cn) us []) hbb r2 hq) fun r s' hq' => ?_))
  cases r with
  | error e => exact hx pins _ _ e s' I2 hq'
  | ok fl =>
    cases fl with
    | ret u =>
      obtain ⟨v, H', I3, rv, ev, q3⟩ := I2.after hq'
      subst ev
      exact ⟨rv, ⟨V.ref (s.heap.objs.size + 1), H', I3, rfl, q3⟩⟩
    | next => exact False.elim hq'
    | brk => exact False.elim hq'
    | cont => exact False.elim hq'
theorem zmake {P : Prog} {cn : String} {sp : String → Sp} (M : Mkr X.prog X.w X.K X.mg X.base CX k P cn sp) (hr : Room (k + 1) X.A) (hg : Gl X x) (hm : X.mg x = some (.ref (ca X.K cn))) (hx : ∀ σ, PassesAt CX X σ (E σ)) (ha : PA X (e :: es) t) (hdb : (x == ("__debug__" : Str)) = false := by decide)
    (he : starEach (e :: es) X.env = (false, eval e X.env) :: starEach es X.env := by rfl) (hpl : (backTo pos (starEach es X.env)).any (·.1) = false := by rfl) :
    PE X (.Call (.Name x p) (e :: es) [] pos) (fun σ H Q => t σ H fun vs H1 => ∀ x dx, H1 x = none → H1 dx = none → dx ≠ x → ∃ f, P.mt cn "__init__" = some f ∧ sp f (.ref x :: vs) (upd (upd H1 dx (.own x)) x (.ins (ca X.K cn) dx [])) (fun v H2 => v = .non ∧ Q (.ref x) H2) (E σ)) := by
  refine ⟨fun pins s σ H Q I h => wpAny_Call_Name_kw (ld_glob I hg hm ?_ hdb)⟩
  obtain ⟨_, _, _, _, M1, _⟩ := M.ex
  exact PySem.W.callWith_K (h₀ := X.base) I.ok.mod.kin M1.kp (thn (ha.run pos pins s σ H _ I h) fun us s1 ⟨vs, H1, I1, r, q⟩ => ⟨I1.kIn, run_mk M hr (hx σ) I1 r q⟩) he hpl
end

section
variable {X : Cx} {C : Addr} {x : Str} {p pos : Pos}
structure Mk0 (K : PySem.W.Frag) (C : Addr) : Prop where
  makes : PySem.W.makesIn K C = true
  init : PySem.W.findIn K (.ref C) "__init__" = some (some (.builtin "object.__init__"))
  kp : PySem.W.keepIn K (.ref C) = true
  top : PySem.W.mroIn K C (.type "object") = some true
def mk0B (K : PySem.W.Frag) (x : Str) : Bool := PySem.W.makesIn K (He.ga K x) && (He.eqO (PySem.W.findIn K (.ref (He.ga K x)) "__init__") (some (some (.builtin "object.__init__"))) && (PySem.W.keepIn K (.ref (He.ga K x)) && decide (PySem.W.mroIn K (He.ga K x) (.type "object") = some true)))
def iscB (K : PySem.W.Frag) (x y : Str) (b : Bool) : Bool := (He.Fa.cls x).ok K && (He.eqO (PySem.W.findIn K (.ref (He.ga K x)) "__class__") (some (some (.builtin "object.__class__"))) && (He.eqO (PySem.W.specialIn K (.builtin "object.__class__") "__get__") (some (some (.builtin "getset_descriptor.__get__"))) &&
  (decide (PySem.W.takesIn K (.builtin "object.__class__") = some true) && (decide (PySem.W.mroIn K (He.ga K x) (.type "object") = some true) && decide (PySem.W.kitOne K (.ref (He.ga K x)) (.ref (He.ga K y)) = some b)))))
end

open RT
section
variable {prog : Program} {w : World} {A : Around} {s : Shared} {R : Result → Shared → Prop}
end
section
variable {X : Cx}
end
def excB (K : PySem.W.Frag) (x : Str) : Bool := He.eqO (PySem.W.findIn K (.ref (He.ga K x)) "__getattribute__") (some (some (.builtin "BaseException.__getattribute__"))) && (He.eqO (PySem.W.findIn K (.ref (He.ga K x)) "__getattr__") (some none) && (decide (PySem.W.subIn K (.ref (He.ga K x)) (.type "BaseException") = some true) && (PySem.W.hasDictIn K (He.ga K x) &&
  (He.eqO (PySem.W.findIn K (.ref (He.ga K x)) "__class__") (some (some (.builtin "object.__class__"))) && (He.eqO (PySem.W.specialIn K (.builtin "object.__class__") "__get__") (some (some (.builtin "getset_descriptor.__get__"))) && (decide (PySem.W.takesIn K (.builtin "object.__class__") = some true) && decide (PySem.W.mroIn K (He.ga K x) (.type "object") = some true)))))))
section
variable {X : Cx} {v : V} {x : Str}
def Says (mg : Str → Option Value) (x : Str) (v : V) : Prop := ∃ u, mg x = some u ∧ RelV v u
theorem zglo {pos : Pos} (c : Says X.mg x v) (hg : Gl X x := by rfl) (hd : (x == ("__debug__" : Str)) = false := by decide) : PE X (.Name x pos) (tC v) := by
  obtain ⟨u, hm, r⟩ := c
  exact pe_glob hg hm r hd
end

section
variable {X : Cx} {e e' : Expr} {t : TA} {p pos : Pos}
theorem zb_len (hg : Gl X "len") (hm : X.mg "len" = none) (ha : PA X [e] t) (he : starEach [e] X.env = (false, eval e X.env) :: starEach [] X.env := by rfl) : PE X (.Call (.Name "len" p) [e] [] pos) (tCB (rBi X.K .len) t) :=
  pe_callB z_len hg hm (by decide +kernel) ha (he := he)
theorem zb_int (hg : Gl X "int") (hm : X.mg "int" = none) (ha : PA X [e] t) (he : starEach [e] X.env = (false, eval e X.env) :: starEach [] X.env := by rfl) : PE X (.Call (.Name "int" p) [e] [] pos) (tCB (rBi X.K .int) t) :=
  pe_callTy z_int hg hm (by decide +kernel) ha (he := he)
theorem zb_list (hc : X.calm = true) (hg : Gl X "list") (hm : X.mg "list" = none) (ha : PA X [e] t) (he : starEach [e] X.env = (false, eval e X.env) :: starEach [] X.env := by rfl) : PE X (.Call (.Name "list" p) [e] [] pos) (tCB (rBi X.K .list) t) :=
  pe_callTy (z_list hc) hg hm (by decide +kernel) ha (he := he)
theorem zb_min2 (hc : X.calm = true) (hg : Gl X "min") (hm : X.mg "min" = none) (ha : PA X [e, e'] t) (he : starEach [e, e'] X.env = (false, eval e X.env) :: starEach [e'] X.env := by rfl) (hpl : (backTo pos (starEach [e'] X.env)).any (·.1) = false := by rfl) :
    PE X (.Call (.Name "min" p) [e, e'] [] pos) (tCB (rBi X.K .min2) t) := pe_callB (z_min2 hc) hg hm (by decide +kernel) ha (he := he) (hpl := hpl)
theorem zb_divmod (hg : Gl X "divmod") (hm : X.mg "divmod" = none) (ha : PA X [e, e'] t) (he : starEach [e, e'] X.env = (false, eval e X.env) :: starEach [e'] X.env := by rfl) (hpl : (backTo pos (starEach [e'] X.env)).any (·.1) = false := by rfl) :
    PE X (.Call (.Name "divmod" p) [e, e'] [] pos) (tCB (rBi X.K .divmod) t) := pe_callB z_divmod hg hm (by decide +kernel) ha (he := he) (hpl := hpl)
theorem zty (t : Tn) {p : Pos} (hg : Gl X (Str.ofString t.nm)) (hm : X.mg (Str.ofString t.nm) = none) : PE X (.Name (Str.ofString t.nm) p) (tC (.ty t.nm)) := by
  refine pe_bltn (u := .type t.nm) hg hm ?_ rfl ?_ ?_
  · cases t <;> decide +kernel
  · cases t <;> decide
  · cases t <;> decide
theorem zisi {ta : TE} {x : Str} {q : Pos} (t : Tn) (hx : x = Str.ofString t.nm) (hg : Gl X "isinstance") (hm : X.mg "isinstance" = none) (hg2 : Gl X x) (hm2 : X.mg x = none) (ha : PE X e ta)
    (he : starEach [e, .Name x q] X.env = (false, eval e X.env) :: starEach [.Name x q] X.env := by rfl) (he2 : starEach [.Name x q] X.env = (false, eval (.Name x q) X.env) :: starEach [] X.env := by rfl) (hpl : (backTo pos (starEach [.Name x q] X.env)).any (·.1) = false := by rfl) :
    PE X (.Call (.Name "isinstance" p) [e, .Name x q] [] pos) (tCB (rIsi X.K) (tCons ta (tCons (tC (.ty t.nm)) tNil))) := by
  subst hx
  exact pe_callB call_isi hg hm (by decide +kernel) (pa_cons ha (pa_cons (zty t hg2 hm2) pa_nil he2) he) (he := he) (hpl := hpl)
end

section
variable {X : Cx} {c : RC} {kk cn : String} {i : Nat} {xc : Str} {a : Addr} {oe : Obj} {cls : Value} {d : Option Addr} {pn : List (Addr × Obj)} {p q pos : Pos} {e : Expr}
end

section
variable {X : Cx} {pos : Pos}
theorem znm (i : Nat) {x : Str} (hN : X.N.Nodup) (hi : X.N[i]? = some x := by rfl) (hx : Loc X.env.scope x := by first | exact Or.inl rfl | exact Or.inr rfl) (hf : X.fn x = true ∨ X.env.scope.names.lookup x = some .local := by first | exact Or.inl rfl | exact Or.inr rfl) : L2.PG X (.Name x pos) (gName i) := pg_name hN hi hx hf
theorem zset (i : Nat) {x : Str} {e : Expr} {te : TE} {pos' : Pos} (hN : X.N.Nodup) (he : PE X e te) (hi : X.N[i]? = some x := by rfl) (hx : Loc X.env.scope x := by first | exact Or.inl rfl | exact Or.inr rfl)
    (hs : swapsWith e (some (.Name x pos')) pos.line X.env = pure false := by rfl) (hf : X.fn x = true ∨ X.env.scope.names.lookup x = some .local := by first | exact Or.inl rfl | exact Or.inr rfl) : PS X (.Assign [.Name x pos'] e pos) (tAsg te (gName i)) := ps_set hN hi hx he hs hf
theorem z_fadd : InOp X .Add (rAug .add) := in_add
theorem ztru {a : Expr} {ta : TE} (ha : PE X a ta) (he : ∀ whole, isTrue a X.env whole = (do let v ← whole; standAt a.pos; holding [v] (truthy v)) := by intro _; rfl) : PT X a (fun σ H Q => ta σ H fun x H' => ∃ k, TruV X.K x H' k ∧ Q k H') := pt_truth ha he
end
theorem fn_zero {P : Program} {w : World} {K : PySem.W.Frag} {mg : Str → Option Value} {base : Heap} {CX : CXT} {k : Nat} {f : Addr} {fd : FuncData} {ps : List Str} {PR : Prog} {nm : String} : FnOk P w K mg base CX k f fd ps (spR PR K 0 nm) :=
  ⟨fun vs H Q E h => (by obtain ⟨_, _, _, _, _, _, _, _, _, _, z, _⟩ := h; cases z), fun A outer s H args us vs Q E _ _ _ _ h => (by obtain ⟨_, _, _, _, _, _, _, _, _, _, z, _⟩ := h; cases z)⟩
theorem lt1_of {u : Nat} (h : u + 64 < cLine) : u + 1 < cLine := by omega
end Z

set_option maxRecDepth 100000
set_option maxHeartbeats 2000000
namespace Z
open PySem PySem.Spec PyProof.Rows L2

def tupZ (K : PySem.W.Frag) (x : Str) (vs : List V) : Bool := match K.lookup (He.ga K x) with
  | some ⟨.type c, none, .seq its _, _⟩ => decide (c = "tuple") && (decide (its.size ≤ sizeLine) && He.relAll vs its.toList)
  | _ => false
theorem tupZ_ok {K : PySem.W.Frag} {x : Str} {vs : List V} (h : tupZ K x vs = true) (H : Hp) : SqT K H (He.ga K x) vs ∧ tyV K "tuple" (.ref (He.ga K x)) H := by
  unfold tupZ at h
  cases q : K.lookup (He.ga K x) with
  | none => rw [q] at h; cases h
  | some o =>
    obtain ⟨oc, od, dt, osl⟩ := o
    rw [q] at h
    cases oc with
    | type c =>
      cases od with
      | none =>
        cases dt with
        | seq its n =>
          obtain ⟨h1, h2⟩ := He.ba (show (decide (c = "tuple") && (decide (its.size ≤ sizeLine) && He.relAll vs its.toList)) = true from h)
          obtain ⟨h3, h4⟩ := He.ba h2
          have e := congrArg Value.type (of_decide_eq_true h1)
          exact ⟨.inr ⟨_, its, n, q, e, rfl, of_decide_eq_true h3, He.relAll_ok h4⟩, .inr (.inl ⟨rfl, _, q, e, rfl⟩)⟩
        | _ => cases h
      | some a => cases dt <;> cases h
    | _ => cases od <;> cases dt <;> cases h

abbrev AlZ : Type := He.AlD × Bool
def obsZ (n : Nat) (fa : List He.Fa) (fn : List He.DefD) (ex : PySem.W.Frag → Bool) (g : Addr → Option Obj) : AlZ := (He.obsD fa fn (He.frG g (He.asD g n)), ex (He.frG g (He.asD g n)))
structure SaysZ (fa : List He.Fa) (fn : List He.DefD) (ex : PySem.W.Frag → Bool) (K : PySem.W.Frag) : Prop where
  d : He.SaysD fa fn K
  more : ex K = true
def hookZ (n : Nat) (fa : List He.Fa) (fn : List He.DefD) (ex : PySem.W.Frag → Bool) : PySem.W.Hook where
  α := AlZ
  obs := fun s => obsZ n fa fn ex s.heap.get?
  val := fun _ => (He.valD fn, true)
  says := fun _ h => ∃ K : PySem.W.Frag, K.In h ∧ SaysZ fa fn ex K
  of := fun _ _ e => ⟨_, He.frG_in, ⟨congrArg (fun z : AlZ => z.1) e, congrArg (fun z : AlZ => z.2) e⟩⟩
  keeps := fun _ _ _ ⟨K, hK, c⟩ k => ⟨K, PySem.W.Frag.In.keeps hK k, c⟩
theorem obsZ_eq {n : Nat} {fa : List He.Fa} {fn : List He.DefD} {ex : PySem.W.Frag → Bool} {g : Addr → Option Obj} {s : Shared} (h : ∀ a, g a = s.heap.get? a) : obsZ n fa fn ex g = (hookZ n fa fn ex).obs s := by
  have e : g = s.heap.get? := funext h
  rw [e] <;> rfl
section
variable {K : PySem.W.Frag} {h : Heap} {mg : Str → Option Value}
theorem says_int (X : K.In h) (G : h.Ns mainGlobals mg) {x : Str} {i : Int} (c : (He.Fa.int x i).ok K = true) : Says mg x (.int i) := by
  obtain ⟨t, e⟩ := He.int_ok X G c
  exact ⟨_, e, t, rfl⟩
theorem says_glo (X : K.In h) (G : h.Ns mainGlobals mg) {x : Str} (c : (He.Fa.glo x).ok K = true) : Says mg x (.ref (He.ga K x)) := ⟨_, He.glo_ok X G c, rfl⟩
end

section
variable {P : Program} {w : World} {K : PySem.W.Frag} {mg : Str → Option Value} {base : Heap} {CX : CXT} {k : Nat} {f : Addr} {ps : List Str} {dvs : List V} {sp : Sp} {x qual : Str} {params : Arguments} {body : List Stmt} {scope : Scope} {kws : List (Str × V)} {fd : FuncData}
theorem cal_of (F : FunD K x qual params body scope [] kws f fd) (ok : FnOk P w K mg base CX k f fd ps sp)
    (h : ∀ (kV doc pm : Value) (an : Option Addr) (cdv ct : Value) (us : List Value), us.length = ps.length → bindArgs (PySem.W.fnOf x qual params body scope .none kV doc pm an cdv ct) ⟨us, []⟩ = pure (ps.zip us)) : Cal P w K mg base CX k f ps [] sp :=
  ⟨⟨fd, [], ok, .nil, F.bindsN h⟩, F.kp⟩
theorem cal_dfl (n j : Nat) (F : FunD K x qual params body scope dvs kws f fd) (ok : FnOk P w K mg base CX k f fd ps sp) (hd : dvs ≠ []) (hn : n + (dvs.length - j) = ps.length)
    (h : ∀ (T : Addr) (kV doc pm : Value) (an : Option Addr) (cdv ct : Value) (us its : List Value), us.length = n → its.length = dvs.length →
      ∃ k, bindArgs (PySem.W.fnOf x qual params body scope (.ref T) kV doc pm an cdv ct) ⟨us, []⟩ = seqItems? (.ref T) >>= k ∧ k (some its.toArray) = pure (ps.zip (us ++ its.drop j))) : Cal P w K mg base CX k f ps (dvs.drop j) sp := by
  obtain ⟨ds, h1, h2⟩ := F.binds1 n j hd hn h
  exact ⟨⟨fd, ds, ok, h1, h2⟩, F.kp⟩
end

theorem ok0 {P : Program} {w : World} {K : PySem.W.Frag} {mg : Str → Option Value} {base : Heap} {k : Nat} {f : Addr} {fd : FuncData} {ps : List Str} {sp : Sp} (F : FnOk P w K mg base (L2.CX P w) k f fd ps sp) : FnOk P w K mg base CX0 k f fd ps (fun vs H Q _ => sp vs H Q fun _ _ _ => False) :=
  ⟨fun vs H Q _ h => F.len vs H Q _ h, fun A outer s H args us vs Q E hr he hb hv hs => codeAny_mono (F.run A outer s H args us vs Q _ hr he hb hv hs) fun res s' hq => by
    match res, hq with
    | .error e, hq =>
      obtain ⟨_, _, _, _, _, _, _, _, _, _, _, _, z⟩ := hq
      exact z
    | .ok (.ret u), hq => exact hq⟩
def h0 (ns : List Int) : Hm := ⟨fun b => if b = 0 then some (.fz (ns.map D.int)) else none, 1⟩
theorem sim0 {K : PySem.W.Frag} {H : Hp} {a : Addr} {ns : List Int} (hO : Only H) (h : SqL K H a (ns.map V.int)) : Sim K (fun _ => a) (h0 ns) H := by
  have hf : SqF K H a (ns.map V.int) := by
    rcases h with (h | h) | h
    · rcases hO a with q | ⟨o, xs, q⟩
      · rw [q] at h; cases h
      · rw [q] at h; cases h
    · exact .inl h
    · exact .inr h
  refine ⟨fun b o hb => ?_, fun b c ob oc hb hc mb mc e => ?_⟩
  · simp only [h0] at hb
    split at hb
    · rename_i e
      cases hb
      subst e
      exact ⟨Nat.lt_succ_self 0, _, hf, repInts ns⟩
    · cases hb
  · simp only [h0] at hb hc
    split at hb
    · cases hb; cases mb
    · cases hb
theorem law_sp {P : Prog} {K : PySem.W.Frag} {N n : Nat} {F : Fn} (hf : P.fn "law" = some F) (hn : F.np = 1)
    (sol : ∀ ns : List Int, ns.length ≤ n → ∃ h', callF P N "law" [.ref 0] (h0 ns) = some (.ok (.bl true), h')) (H : Hp) (a : Addr) (ns : List Int) (hl : ns.length ≤ n) (hO : Only H) (hS : SqL K H a (ns.map V.int)) :
    spR P K N "law" [.ref a] H (fun v _ => v = .bl true) fun _ _ _ => False := by
  obtain ⟨h', e⟩ := sol ns hl
  refine ⟨F, fun _ => a, h0 ns, [.ref 0], _, h', hf, hn.symm, sim0 hO hS, .cons (.ref (r := fun _ => a) (Nat.lt_succ_self 0)) .nil, e, ?_⟩
  intro v r' H' S x q
  cases q
  rfl
end Z

set_option maxRecDepth 100000
set_option maxHeartbeats 2000000
namespace Z
open PySem
section
variable {P : Prog} {cl : Cl} {env : Env} {h h' : Hm}
theorem callF_eq {n : Nat} {f : String} {F : Fn} {ds : List D} (hf : P.fn f = some F) (hl : ds.length = F.np) : callF P (n + 1) f ds h = endF (ex P (callF P n) F.body (start F.ns ds) h) := by
  simp only [callF, hf, if_pos hl]
@[simp] theorem ofS_eq (a b : String) : (Str.ofString a = Str.ofString b) ↔ a = b := ⟨fun e => ofString_inj e, fun e => by rw [e]⟩
@[simp] theorem ok_def {α : Type} (x : α) (h : Hm) : ok x h = some (.ok x, h) := id rfl
@[simp] theorem nxt_def (env : Env) (h : Hm) : nxt env h = some (.nx, env, h) := id rfl
@[simp] theorem liftO_some {α : Type} (x : α) (h : Hm) : liftO (some x) h = some (.ok x, h) := id rfl
@[simp] theorem liftO_none {α : Type} (h : Hm) : liftO (none : Option α) h = none := id rfl
@[simp] theorem endF_nx : endF (some (.nx, env, h)) = some (.ok .non, h) := id rfl
@[simp] theorem endF_rt (d : D) : endF (some (.rt d, env, h)) = some (.ok d, h) := id rfl
@[simp] theorem endF_ex (k : String) : endF (some (.ex k, env, h)) = some (.error k, h) := id rfl
@[simp] theorem start_def (n : Nat) (ds : List D) : start n ds = ds.map some ++ List.replicate (n - ds.length) none := id rfl
@[simp] theorem cd_non : Cst.d .non = .non := id rfl
@[simp] theorem cd_bl (b : Bool) : Cst.d (.bl b) = .bl b := id rfl
@[simp] theorem cd_int (b : Int) : Cst.d (.int b) = .int b := id rfl
@[simp] theorem cd_str (b : String) : Cst.d (.str b) = .str (Str.ofString b) := id rfl
end
set_option checkBinderAnnotations false
abbrev RF {γ : Type} (_ : γ) (τ : Type) : Type := τ
def bndI {α β : Type} (m : Res α) [f : α → Hm → Res β] : RF f (Res β) := bnd m f
def toSI {α : Type} (m : Res α) (env : Env) [f : α → Hm → Out] : RF f Out := toS m env f
def thenSI (m : Out) [f : Env → Hm → Out] : RF f Out := thenS m f
def optB {β : Type} (m : Option Bool) [a : Option β] [b : Option β] : RF a (RF b (Option β)) := match m with
  | some true => a
  | some false => b
  | none => none
def someI {α β : Type} (m : Option α) [f : α → Option β] : RF f (Option β) := match m with
  | some x => f x
  | none => none
def insB {β : Type} (m : Option O) [f : String → List (String × D) → Option β] : RF f (Option β) := match m with
  | some (.ins c fs) => f c fs
  | _ => none
def lstI {β : Type} (m : Option O) [f : List D → Option β] : RF f (Option β) := match m with
  | some (.lst xs) => f xs
  | _ => none
def tupI {β : Type} (m : Option D) [f : List D → Option β] : RF f (Option β) := match m with
  | some (.tup xs) => f xs
  | _ => none
def mtI {β : Type} (m : Option String) (o : Option D) [f : String → Option β] : RF f (Option β) := match m, o with
  | some g, none => f g
  | _, _ => none
def walkI {β : Type} (m : Option (List D × List (Nat × O))) [f : List D → List (Nat × O) → Option β] : RF f (Option β) := match m with
  | some (items, gd) => f items gd
  | none => none
def dgtO (m : Option (Option D)) (h : Hm) : Res D := match m with
  | some (some v) => ok v h
  | _ => none
def getV (env : Env) (i : Nat) (h : Hm) : Res D := match env[i]? with
  | some (some d) => ok d h
  | _ => none
section
variable {α β : Type} {h : Hm} {env : Env}
@[simp] theorem bndI_ok (a : α) (f : α → Hm → Res β) : @bndI α β (some (.ok a, h)) f = f a h := id rfl
@[simp] theorem bndI_er (k : String) (f : α → Hm → Res β) : @bndI α β (some (.error k, h)) f = some (.error k, h) := id rfl
@[simp] theorem bndI_no (f : α → Hm → Res β) : @bndI α β none f = none := id rfl
@[simp] theorem bndI_if (c : Prop) [Decidable c] (a b : Res α) (f : α → Hm → Res β) : @bndI α β (if c then a else b) f = if c then @bndI α β a f else @bndI α β b f := by split <;> rfl
@[simp] theorem toSI_ok (a : α) (f : α → Hm → Out) : @toSI α (some (.ok a, h)) env f = f a h := id rfl
@[simp] theorem toSI_er (k : String) (f : α → Hm → Out) : @toSI α (some (.error k, h)) env f = some (.ex k, env, h) := id rfl
@[simp] theorem toSI_no (f : α → Hm → Out) : @toSI α none env f = none := id rfl
@[simp] theorem toSI_if (c : Prop) [Decidable c] (a b : Res α) (f : α → Hm → Out) : @toSI α (if c then a else b) env f = if c then @toSI α a env f else @toSI α b env f := by split <;> rfl
@[simp] theorem thenSI_nx (f : Env → Hm → Out) : @thenSI (some (.nx, env, h)) f = f env h := id rfl
@[simp] theorem thenSI_rt (d : D) (f : Env → Hm → Out) : @thenSI (some (.rt d, env, h)) f = some (.rt d, env, h) := id rfl
@[simp] theorem thenSI_ex (k : String) (f : Env → Hm → Out) : @thenSI (some (.ex k, env, h)) f = some (.ex k, env, h) := id rfl
@[simp] theorem thenSI_no (f : Env → Hm → Out) : @thenSI none f = none := id rfl
@[simp] theorem thenSI_if (c : Prop) [Decidable c] (a b : Out) (f : Env → Hm → Out) : @thenSI (if c then a else b) f = if c then @thenSI a f else @thenSI b f := by split <;> rfl
@[simp] theorem endF_if (c : Prop) [Decidable c] (a b : Out) : endF (if c then a else b) = if c then endF a else endF b := by split <;> rfl
@[simp] theorem optB_t (a b : Option β) : @optB β (some true) a b = a := id rfl
@[simp] theorem optB_f (a b : Option β) : @optB β (some false) a b = b := id rfl
@[simp] theorem optB_d (c : Prop) [Decidable c] (a b : Option β) : @optB β (some (decide c)) a b = if c then a else b := by by_cases hc : c <;> simp [hc]
@[simp] theorem someI_some (x : α) (f : α → Option β) : @someI α β (some x) f = f x := id rfl
@[simp] theorem someI_none (f : α → Option β) : @someI α β none f = none := id rfl
@[simp] theorem insB_ins (c : String) (fs : List (String × D)) (f : String → List (String × D) → Option β) : @insB β (some (.ins c fs)) f = f c fs := id rfl
@[simp] theorem lstI_lst (xs : List D) (f : List D → Option β) : @lstI β (some (.lst xs)) f = f xs := id rfl
@[simp] theorem tupI_tup (xs : List D) (f : List D → Option β) : @tupI β (some (.tup xs)) f = f xs := id rfl
@[simp] theorem mtI_some (g : String) (f : String → Option β) : @mtI β (some g) none f = f g := id rfl
@[simp] theorem walkI_some (items : List D) (gd : List (Nat × O)) (f : List D → List (Nat × O) → Option β) : @walkI β (some (items, gd)) f = f items gd := id rfl
@[simp] theorem dgtO_some (v : D) : dgtO (some (some v)) h = some (.ok v, h) := id rfl
@[simp] theorem getV_zero (d : D) (env : Env) : getV (some d :: env) 0 h = some (.ok d, h) := id rfl
@[simp] theorem getV_succ (x : Option D) (env : Env) (i : Nat) : getV (x :: env) (i + 1) h = getV env i h := id rfl
end
section
variable {P : Prog} {cl : Cl} {env : Env} {h h' : Hm}
@[simp] theorem ev_var (i : Nat) : ev P cl (.var i) env h = getV env i h := by (try simp only [ev, bndI, insB, mtI, someI, tupI, walkI, optB, lstI, dgtO, getV]) <;> (first | done | rfl)
@[simp] theorem ev_con (c : Cst) : ev P cl (.con c) env h = ok c.d h := by (try simp only [ev, bndI, insB, mtI, someI, tupI, walkI, optB, lstI, dgtO, getV]) <;> (first | done | rfl)
@[simp] theorem ev_glo (x : String) : ev P cl (.glo x) env h = liftO (P.glob x) h := by (try simp only [ev, bndI, insB, mtI, someI, tupI, walkI, optB, lstI, dgtO, getV]) <;> (first | done | rfl)
@[simp] theorem ev_bin (o : Bop) (a b : E) : ev P cl (.bin o a b) env h = @bndI _ _ (ev P cl a env h) fun x h1 => @bndI _ _ (ev P cl b env h1) fun y h2 => binD o x y h2 := by (try simp only [ev, bndI, insB, mtI, someI, tupI, walkI, optB, lstI, dgtO, getV]) <;> (first | done | rfl)
@[simp] theorem ev_neg (a : E) : ev P cl (.neg a) env h = @bndI _ _ (ev P cl a env h) negD := by (try simp only [ev, bndI, insB, mtI, someI, tupI, walkI, optB, lstI, dgtO, getV]) <;> (first | done | rfl)
@[simp] theorem ev_cmp (o : Cop) (a b : E) : ev P cl (.cmp o a b) env h = @bndI _ _ (ev P cl a env h) fun x h1 => @bndI _ _ (ev P cl b env h1) fun y h2 => liftO ((cmpD o x y h2).map .bl) h2 := by (try simp only [ev, bndI, insB, mtI, someI, tupI, walkI, optB, lstI, dgtO, getV]) <;> (first | done | rfl)
theorem cmp_eqT {x y : D} {h : Hm} (t : TwT x y h) : cmpD .eqT x y h = some true := if_pos t
@[simp] theorem ev_chn (o o' : Cop) (a b c : E) : ev P cl (.chn o o' a b c) env h = @bndI _ _ (ev P cl a env h) fun x h1 => @bndI _ _ (ev P cl b env h1) fun y h2 => @optB _ (cmpD o x y h2) (@bndI _ _ (ev P cl c env h2) fun z h3 => liftO ((cmpD o' y z h3).map .bl) h3) (ok (.bl false) h2) := by (try simp only [ev, bndI, insB, mtI, someI, tupI, walkI, optB, lstI, dgtO, getV]) <;> (first | done | rfl)
@[simp] theorem ev_and (a b : E) : ev P cl (.and a b) env h = @bndI _ _ (ev P cl a env h) fun x h1 => (match x with
    | .bl true => ev P cl b env h1
    | .bl false => ok (.bl false) h1
    | _ => none) := by (try simp only [ev, bndI, insB, mtI, someI, tupI, walkI, optB, lstI, dgtO, getV]) <;> (first | done | rfl)
@[simp] theorem ev_or (a b : E) : ev P cl (.or a b) env h = @bndI _ _ (ev P cl a env h) fun x h1 => (match x with
    | .bl true => ok (.bl true) h1
    | .bl false => ev P cl b env h1
    | _ => none) := by (try simp only [ev, bndI, insB, mtI, someI, tupI, walkI, optB, lstI, dgtO, getV]) <;> (first | done | rfl)
@[simp] theorem ev_not (a : E) : ev P cl (.not a) env h = @bndI _ _ (ev P cl a env h) fun x h1 => (match x with
    | .bl b => ok (.bl (!b)) h1
    | _ => none) := by (try simp only [ev, bndI, insB, mtI, someI, tupI, walkI, optB, lstI, dgtO, getV]) <;> (first | done | rfl)
@[simp] theorem ev_ife (c : T) (a b : E) : ev P cl (.ife c a b) env h = @bndI _ _ (evT P cl c env h) fun k h1 => if k = true then ev P cl a env h1 else ev P cl b env h1 := by (try simp only [ev, bndI, insB, mtI, someI, tupI, walkI, optB, lstI, dgtO, getV]) <;> (first | done | rfl)
@[simp] theorem ev_idx (a b : E) : ev P cl (.idx a b) env h = @bndI _ _ (ev P cl a env h) fun x h1 => @bndI _ _ (ev P cl b env h1) fun y h2 => liftO (idxD x y h2) h2 := by (try simp only [ev, bndI, insB, mtI, someI, tupI, walkI, optB, lstI, dgtO, getV]) <;> (first | done | rfl)
@[simp] theorem ev_dgt (a b : E) : ev P cl (.dgt a b) env h = @bndI _ _ (ev P cl a env h) fun x h1 => @bndI _ _ (ev P cl b env h1) fun y h2 => (match x with
    | .ref p => dgtO (dget h2 p y) h2
    | _ => none) := by (try simp only [ev, bndI, insB, mtI, someI, tupI, walkI, optB, lstI, dgtO, getV]) <;> (first | done | rfl)
@[simp] theorem ev_slc (a : E) (lo hi : Eo) : ev P cl (.slc a lo hi) env h = @bndI _ _ (ev P cl a env h) fun x h1 => @bndI _ _ (evO P cl lo env h1) fun l h2 => @bndI _ _ (evO P cl hi env h2) fun u h3 => slcD x l u h3 := by (try simp only [ev, bndI, insB, mtI, someI, tupI, walkI, optB, lstI, dgtO, getV]) <;> (first | done | rfl)
@[simp] theorem ev_att (a : E) (f : String) : ev P cl (.att a f) env h = @bndI _ _ (ev P cl a env h) fun x h1 => (match x with
    | .ref p => @insB _ (h1.get p) fun c fs => if P.fld c f = true then liftO (fs.lookup f) h1 else none
    | _ => none) := by (try simp only [ev, bndI, insB, mtI, someI, tupI, walkI, optB, lstI, dgtO, getV]) <;> (first | done | rfl)
@[simp] theorem ev_tup (es : Es) : ev P cl (.tup es) env h = @bndI _ _ (evs P cl es env h) fun vs h1 => if vs.length ≤ 1000000 then ok (.tup vs) h1 else none := by (try simp only [ev, bndI, insB, mtI, someI, tupI, walkI, optB, lstI, dgtO, getV]) <;> (first | done | rfl)
@[simp] theorem ev_lst (es : Es) : ev P cl (.lst es) env h = @bndI _ _ (evs P cl es env h) fun vs h1 => if vs.length ≤ 1000000 then ok (.ref h1.next) (h1.new (.lst vs)) else none := by (try simp only [ev, bndI, insB, mtI, someI, tupI, walkI, optB, lstI, dgtO, getV]) <;> (first | done | rfl)
@[simp] theorem ev_dict0 : ev P cl (.dict .nil) env h = ok (.ref h.next) (h.new (.dic [])) := by (try simp only [ev, bndI, insB, mtI, someI, tupI, walkI, optB, lstI, dgtO, getV]) <;> (first | done | rfl)
@[simp] theorem ev_disp (a : E) (es : Es) : ev P cl (.dict (.cons a es)) env h = if (Es.cons a es).len % 2 = 0 then @bndI _ _ (evs P cl (.cons a es) env (h.new (.dic []))) fun vs h1 => dispO (h1.get h.next) (pairUp vs) h1 h.next else none := by rw [ev]; rfl; intro z; cases z
@[simp] theorem ev_call (f : String) (es : Es) (ds : List Cst) : ev P cl (.call f es ds) env h = @bndI _ _ (evs P cl es env h) fun vs h1 => cl f (vs ++ ds.map Cst.d) h1 := by (try simp only [ev, bndI, insB, mtI, someI, tupI, walkI, optB, lstI, dgtO, getV]) <;> (first | done | rfl)
@[simp] theorem ev_meth (o : E) (m : String) (es : Es) (ds : List Cst) : ev P cl (.meth o m es ds) env h = @bndI _ _ (ev P cl o env h) fun x h1 => (match x with
    | .ref p => @insB _ (h1.get p) fun c fs => @mtI _ (P.mt c m) (fs.lookup m) fun f => @bndI _ _ (evs P cl es env h1) fun vs h2 => cl f (.ref p :: (vs ++ ds.map Cst.d)) h2
    | _ => none) := by (try simp only [ev, bndI, insB, mtI, someI, tupI, walkI, optB, lstI, dgtO, getV]) <;> (first | done | rfl)
@[simp] theorem ev_new (c : String) (es : Es) : ev P cl (.new c es) env h = @bndI _ _ (evs P cl es env h) fun vs h1 => @someI _ _ (P.mt c "__init__") fun f => @bndI _ _ (cl f (.ref h1.next :: vs) (h1.new (.ins c []))) fun x h2 => (match x with
      | .non => ok (.ref h1.next) h2
      | _ => none) := by
  rw [ev]
  refine congrArg (bnd _) (funext fun vs => funext fun h1 => ?_)
  cases P.mt c "__init__" <;> rfl
@[simp] theorem ev_bi (b : Bi) (es : Es) : ev P cl (.bi b es) env h = @bndI _ _ (evs P cl es env h) fun vs h1 => biD b vs h1 := by (try simp only [ev, bndI, insB, mtI, someI, tupI, walkI, optB, lstI, dgtO, getV]) <;> (first | done | rfl)
@[simp] theorem ev_bm (b : Bm) (o : E) (es : Es) : ev P cl (.bm b o es) env h = @bndI _ _ (ev P cl o env h) fun x h1 => if rcv b x h1 = true then @bndI _ _ (evs P cl es env h1) fun vs h2 => bmD b x vs h2 else none := by (try simp only [ev, bndI, insB, mtI, someI, tupI, walkI, optB, lstI, dgtO, getV]) <;> (first | done | rfl)
@[simp] theorem ev_gix (x : String) (e : E) : ev P cl (.gix x e) env h = @tupI _ (P.glob x) fun xs => @bndI _ _ (ev P cl e env h) fun y h1 => gixD (.tup xs) y h1 := by (try simp only [ev, bndI, insB, mtI, someI, tupI, walkI, optB, lstI, dgtO, getV]) <;> (first | done | rfl)
@[simp] theorem ev_isi (a : E) (t : Tn) : ev P cl (.isi a t) env h = @bndI _ _ (ev P cl a env h) fun x h1 => liftO ((tyN x h1).map fun n => .bl (isTn n t)) h1 := by (try simp only [ev, bndI, insB, mtI, someI, tupI, walkI, optB, lstI, dgtO, getV]) <;> (first | done | rfl)
@[simp] theorem ev_isi2 (a : E) (t u : Tn) : ev P cl (.isi2 a t u) env h = @bndI _ _ (ev P cl a env h) fun x h1 => liftO ((tyN x h1).map fun n => .bl (isTn n t || isTn n u)) h1 := by (try simp only [ev, bndI, insB, mtI, someI, tupI, walkI, optB, lstI, dgtO, getV]) <;> (first | done | rfl)
@[simp] theorem ev_comp (elt : E) (own : List Nat) (g : Tg) (k : ItK) (es : Es) (tst : T) : ev P cl (.comp elt own g k es tst) env h = @bndI _ _ (evs P cl es env h) fun vs h1 => @walkI _ (walk k vs h1) fun items gd => if g.in_ own = true then compL (fun e1 h2 => ev P cl elt e1 h2) (fun e1 h2 => evT P cl tst e1 h2) g gd h1.next (wipeE env own) items (h1.new (.lst [])) else none := by (try simp only [ev, bndI, insB, mtI, someI, tupI, walkI, optB, lstI, dgtO, getV]) <;> (first | done | rfl)
@[simp] theorem ev_cpx (elt : E) (own : List Nat) (g : Tg) (k : ItK) (es : Es) (tst : T) : ev P cl (.cpx elt own g k es tst) env h = @bndI _ _ (evs P cl es env h) fun vs h1 => @walkI _ (walk k vs h1) fun items gd => if g.in_ own = true then compX (fun e1 h2 => ev P cl elt e1 h2) (fun e1 h2 => evT P cl tst e1 h2) g gd h1.next (wipeE env own) items (h1.new (.lst [])) else none := by (try simp only [ev, bndI, insB, mtI, someI, tupI, walkI, optB, lstI, dgtO, getV]) <;> (first | done | rfl)
@[simp] theorem evs_nil : evs P cl .nil env h = ok [] h := by (try simp only [evs]) <;> rfl
@[simp] theorem evs_cons (e : E) (es : Es) : evs P cl (.cons e es) env h = @bndI _ _ (ev P cl e env h) fun x h1 => @bndI _ _ (evs P cl es env h1) fun xs h2 => ok (x :: xs) h2 := by (try simp only [evs]) <;> rfl
@[simp] theorem evO_none : evO P cl .none env h = ok none h := by (try simp only [evO]) <;> rfl
@[simp] theorem evO_some (e : E) : evO P cl (.some e) env h = @bndI _ _ (ev P cl e env h) fun x h1 => (match x with
    | .int i => ok (some i) h1
    | _ => none) := by (try simp only [evO]) <;> rfl
@[simp] theorem evT_yes : evT P cl .yes env h = ok true h := by (try simp only [evT, bndI, optB]) <;> (first | done | rfl)
@[simp] theorem evT_cmp (o : Cop) (a b : E) : evT P cl (.cmp o a b) env h = @bndI _ _ (ev P cl a env h) fun x h1 => @bndI _ _ (ev P cl b env h1) fun y h2 => liftO (cmpD o x y h2) h2 := by (try simp only [evT, bndI, optB]) <;> (first | done | rfl)
@[simp] theorem evT_chn (o o' : Cop) (a b c : E) : evT P cl (.chn o o' a b c) env h = @bndI _ _ (ev P cl a env h) fun x h1 => @bndI _ _ (ev P cl b env h1) fun y h2 => @optB _ (cmpD o x y h2) (@bndI _ _ (ev P cl c env h2) fun z h3 => liftO (cmpD o' y z h3) h3) (ok false h2) := by (try simp only [evT, bndI, optB]) <;> (first | done | rfl)
@[simp] theorem evT_and (a b : T) : evT P cl (.and a b) env h = @bndI _ _ (evT P cl a env h) fun k h1 => if k = true then evT P cl b env h1 else ok false h1 := by (try simp only [evT, bndI, optB]) <;> (first | done | rfl)
@[simp] theorem evT_or (a b : T) : evT P cl (.or a b) env h = @bndI _ _ (evT P cl a env h) fun k h1 => if k = true then ok true h1 else evT P cl b env h1 := by (try simp only [evT, bndI, optB]) <;> (first | done | rfl)
@[simp] theorem evT_not (a : T) : evT P cl (.not a) env h = @bndI _ _ (evT P cl a env h) fun k h1 => ok (!k) h1 := by (try simp only [evT, bndI, optB]) <;> (first | done | rfl)
@[simp] theorem evT_tru (a : E) : evT P cl (.tru a) env h = @bndI _ _ (ev P cl a env h) fun x h1 => liftO (truD x h1) h1 := by (try simp only [evT, bndI, optB]) <;> (first | done | rfl)
@[simp] theorem ex_skip : ex P cl .skip env h = nxt env h := by (try simp only [ex, toSI, thenSI, insB, someI, walkI, lstI, getV]) <;> (first | done | rfl)
@[simp] theorem ex_seq (a b : S) : ex P cl (.seq a b) env h = @thenSI (ex P cl a env h) fun env1 h1 => ex P cl b env1 h1 := by (try simp only [ex, toSI, thenSI, insB, someI, walkI, lstI, getV]) <;> (first | done | rfl)
@[simp] theorem ex_asg (i : Nat) (e : E) : ex P cl (.asg i e) env h = @toSI _ (ev P cl e env h) env fun x h1 => nxt (env.set i (some x)) h1 := by (try simp only [ex, toSI, thenSI, insB, someI, walkI, lstI, getV]) <;> (first | done | rfl)
@[simp] theorem ex_unp (is : List Nat) (e : E) : ex P cl (.unp is e) env h = @toSI _ (ev P cl e env h) env fun x h1 => @someI _ _ (seqOf x h1) fun xs => @someI _ _ (setN env is xs) fun env1 => nxt env1 h1 := by
  rw [ex]
  refine congrArg (toS _ _) (funext fun x => funext fun h1 => ?_)
  cases seqOf x h1 with
  | none => rfl
  | some xs => dsimp only [someI]; cases e : setN env is xs <;> simp only [e] <;> rfl
@[simp] theorem ex_sfld (o : E) (f : String) (e : E) : ex P cl (.sfld o f e) env h = @toSI _ (ev P cl e env h) env fun x h1 => @toSI _ (ev P cl o env h1) env fun y h2 => (match y with
    | .ref p => @insB _ (h2.get p) fun c fs => if P.fld c f = true ∧ fs.length < 1000 then nxt env (h2.put p (.ins c (setF fs f x))) else none
    | _ => none) := by (try simp only [ex, toSI, thenSI, insB, someI, walkI, lstI, getV]) <;> (first | done | rfl)
@[simp] theorem ex_sidx (o i e : E) : ex P cl (.sidx o i e) env h = @toSI _ (ev P cl e env h) env fun x h1 => @toSI _ (ev P cl o env h1) env fun y h2 => @toSI _ (ev P cl i env h2) env fun z h3 => (match y, z with
    | .ref p, .int k => @lstI _ (h3.get p) fun xs => @someI _ _ (ixD xs.length k) fun j => nxt env (h3.put p (.lst (xs.set j x)))
    | _, _ => none) := by
  rw [ex]
  refine congrArg (toS _ _) (funext fun x => funext fun h1 => congrArg (toS _ _) (funext fun y => funext fun h2 => congrArg (toS _ _) (funext fun z => funext fun h3 => ?_)))
  cases y <;> try rfl
  cases z <;> try rfl
  rename_i p k
  dsimp only
  cases e1 : h3.get p with
  | none => rfl
  | some o =>
    cases o <;> try rfl
    rename_i xs
    dsimp only [someI, lstI]
    cases e : ixD xs.length k <;> simp only [e] <;> rfl
@[simp] theorem ex_dput (o i e : E) : ex P cl (.dput o i e) env h = @toSI _ (ev P cl e env h) env fun x h1 => @toSI _ (ev P cl o env h1) env fun y h2 => @toSI _ (ev P cl i env h2) env fun z h3 => (match y with
    | .ref p => @someI _ _ (dput h3 p z x) fun h4 => nxt env h4
    | _ => none) := by
  rw [ex]
  refine congrArg (toS _ _) (funext fun x => funext fun h1 => congrArg (toS _ _) (funext fun y => funext fun h2 => congrArg (toS _ _) (funext fun z => funext fun h3 => ?_)))
  cases y <;> try rfl
  rename_i p
  dsimp only [someI]
  cases e : dput h3 p z x <;> simp only [e] <;> rfl
@[simp] theorem ex_aug (i : Nat) (o : Bop) (e : E) : ex P cl (.aug i o e) env h = @toSI _ (getV env i h) env fun x _ => @toSI _ (ev P cl e env h) env fun y h1 => @someI _ _ (augD o x y) fun z => nxt (env.set i (some z)) h1 := by
  rw [ex]
  unfold getV
  cases e1 : env[i]? with
  | none => simp only [e1] <;> rfl
  | some v =>
    cases v with
    | none => simp only [e1] <;> rfl
    | some x =>
      simp only [e1]
      show _ = toS (ev P cl e env h) env _
      refine congrArg (toS _ _) (funext fun y => funext fun h1 => ?_)
      cases e2 : augD o x y <;> simp only [e2] <;> rfl
@[simp] theorem ex_augf (o : E) (f : String) (op : Bop) (e : E) : ex P cl (.augf o f op e) env h = @toSI _ (ev P cl o env h) env fun y h1 => (match y with
    | .ref p => @insB _ (h1.get p) fun c fs => if P.fld c f = true then @someI _ _ (fs.lookup f) fun x => @toSI _ (ev P cl e env h1) env fun v h2 => @someI _ _ (augD op x v) fun z => @insB _ (h2.get p) fun c' fs' => if c' = c ∧ fs'.length < 1000 then nxt env (h2.put p (.ins c (setF fs' f z))) else none else none
    | _ => none) := by
  rw [ex]
  refine congrArg (toS _ _) (funext fun y => funext fun h1 => ?_)
  cases y <;> try rfl
  rename_i p
  dsimp only
  cases e1 : h1.get p with
  | none => rfl
  | some ob =>
    cases ob <;> try rfl
    rename_i c fs
    show (if _ then _ else _) = if _ then _ else _
    by_cases hf : P.fld c f = true
    · rw [if_pos hf, if_pos hf]
      cases e2 : fs.lookup f with
      | none => simp only [e2] <;> rfl
      | some x =>
        simp only [e2]
        show _ = toS (ev P cl e env h1) env _
        refine congrArg (toS _ _) (funext fun v => funext fun h2 => ?_)
        cases e3 : augD op x v <;> simp only [e3] <;> rfl
    · rw [if_neg hf, if_neg hf]
@[simp] theorem ex_ite (c : T) (a b : S) : ex P cl (.ite c a b) env h = @toSI _ (evT P cl c env h) env fun k h1 => if k = true then ex P cl a env h1 else ex P cl b env h1 := by (try simp only [ex, toSI, thenSI, insB, someI, walkI, lstI, getV]) <;> (first | done | rfl)
@[simp] theorem ex_for (g : Tg) (k : ItK) (es : Es) (body : S) : ex P cl (.for_ g k es body) env h = @toSI _ (evs P cl es env h) env fun vs h1 => @walkI _ (walk k vs h1) fun items gd => forL (fun e1 h2 => ex P cl body e1 h2) g gd items env h1 := by (try simp only [ex, toSI, thenSI, insB, someI, walkI, lstI, getV]) <;> (first | done | rfl)
@[simp] theorem ex_wh (c : T) (body : S) : ex P cl (.wh c body) env h = whl (fun e1 h1 => evT P cl c e1 h1) (fun e1 h1 => ex P cl body e1 h1) P.lf env h := by (try simp only [ex, toSI, thenSI, insB, someI, walkI, lstI, getV]) <;> (first | done | rfl)
@[simp] theorem ex_ret (e : E) : ex P cl (.ret e) env h = @toSI _ (ev P cl e env h) env fun x h1 => some (.rt x, env, h1) := by (try simp only [ex, toSI, thenSI, insB, someI, walkI, lstI, getV]) <;> (first | done | rfl)
@[simp] theorem ex_drop (e : E) : ex P cl (.drop e) env h = @toSI _ (ev P cl e env h) env fun _ h1 => nxt env h1 := by (try simp only [ex, toSI, thenSI, insB, someI, walkI, lstI, getV]) <;> (first | done | rfl)
@[simp] theorem ex_rai (c : String) : ex P cl (.rai c) env h = some (.ex c, env, h) := by (try simp only [ex, toSI, thenSI, insB, someI, walkI, lstI, getV]) <;> (first | done | rfl)
end


@[simp] theorem esl_nil : Es.len .nil = 0 := id rfl
@[simp] theorem esl_cons (a : E) (es : Es) : Es.len (.cons a es) = es.len + 1 := id rfl
@[simp] theorem pairUp_nil : pairUp [] = some [] := id rfl
@[simp] theorem pairUp_i (i : Int) (v : D) (r : List D) : pairUp (.int i :: v :: r) = (pairUp r).map fun ps => (.inl i, v) :: ps := by
  cases h : pairUp r <;> simp [pairUp, key?, h]
@[simp] theorem pairUp_s (i : Str) (v : D) (r : List D) : pairUp (.str i :: v :: r) = (pairUp r).map fun ps => (.inr i, v) :: ps := by
  cases h : pairUp r <;> simp [pairUp, key?, h]
@[simp] theorem dispO_d (kvs : List (L2.Key × D)) (h1 : Hm) (a : Nat) (c : kvs.length ≤ 15) : dispO (some (.dic [])) (some kvs) h1 a = some (.ok (.ref a), h1.put a (.dic (kmerge [] kvs))) := if_pos c
section
variable {h : Hm} {i j : Int}
@[simp] theorem b_add : binD .add (.int i) (.int j) h = some (.ok (.int (i + j)), h) := id rfl
@[simp] theorem b_sub : binD .sub (.int i) (.int j) h = some (.ok (.int (i - j)), h) := id rfl
@[simp] theorem b_mul (c : (-(2 ^ 64) < i ∧ i < 2 ^ 64) ∨ (-(2 ^ 64) < j ∧ j < 2 ^ 64) ∨ ((-(2 ^ 250) < i ∧ i < 2 ^ 250) ∧ -(2 ^ 250) < j ∧ j < 2 ^ 250)) : binD .mul (.int i) (.int j) h = some (.ok (.int (i * j)), h) := if_pos c
@[simp] theorem b_fdiv (c : 0 < j ∧ j < 2 ^ 250) : binD .fdiv (.int i) (.int j) h = some (.ok (.int (i / j)), h) := if_pos c
@[simp] theorem b_mod (c : 0 < j) : binD .mod (.int i) (.int j) h = some (.ok (.int (i % j)), h) := if_pos c
@[simp] theorem b_pow2 : binD .pow (.int 2) (.int 64) h = some (.ok (.int 18446744073709551616), h) := by
  have c : 0 ≤ (64 : Int) ∧ (64 : Int) ≤ 1000000 ∧ w64 2 := by unfold w64; omega
  simp only [binD]
  rw [if_pos c]
  rfl
@[simp] theorem b_shl (c : 0 ≤ j ∧ j ≤ 1000000 ∧ -(2 ^ 64) < i ∧ i < 2 ^ 64) : binD .shl (.int i) (.int j) h = some (.ok (.int (i * 2 ^ j.toNat)), h) := if_pos ⟨c.1, c.2.1, c.2.2⟩
@[simp] theorem b_shr (c : 0 ≤ j) : binD .shr (.int i) (.int j) h = some (.ok (.int (i / 2 ^ j.toNat)), h) := if_pos c
@[simp] theorem b_band : binD .band (.int i) (.int j) h = some (.ok (.int (Builtin.bitAnd i j)), h) := id rfl
@[simp] theorem b_bor : binD .bor (.int i) (.int j) h = some (.ok (.int (Builtin.bitOr i j)), h) := id rfl
@[simp] theorem b_bxor : binD .bxor (.int i) (.int j) h = some (.ok (.int (Builtin.bitXor i j)), h) := id rfl
@[simp] theorem n_int : negD (.int i) h = some (.ok (.int (-i)), h) := id rfl
theorem b_addL {a b : Nat} {xs ys : List D} (ha : h.get a = some (.lst xs)) (hb : h.get b = some (.lst ys)) (c : xs.length + ys.length ≤ 1000000) : binD .add (.ref a) (.ref b) h = some (.ok (.ref h.next), h.new (.lst (xs ++ ys))) := by
  simp only [binD, ha, hb]
  exact if_pos c
@[simp] theorem c_eqI : cmpD .eq (.int i) (.int j) h = some (decide (i = j)) := id rfl
@[simp] theorem c_eqS (s t : Str) : cmpD .eq (.str s) (.str t) h = some (decide (s = t)) := id rfl
@[simp] theorem c_neI : cmpD .ne (.int i) (.int j) h = some (!decide (i = j)) := id rfl
@[simp] theorem c_neS (s t : Str) : cmpD .ne (.str s) (.str t) h = some (!decide (s = t)) := id rfl
@[simp] theorem c_lt : cmpD .lt (.int i) (.int j) h = some (decide (i < j)) := id rfl
@[simp] theorem c_le : cmpD .le (.int i) (.int j) h = some (decide (i ≤ j)) := id rfl
@[simp] theorem c_gt : cmpD .gt (.int i) (.int j) h = some (decide (j < i)) := id rfl
@[simp] theorem c_ge : cmpD .ge (.int i) (.int j) h = some (decide (j ≤ i)) := id rfl
@[simp] theorem bi_divmod (c : 0 < j ∧ -(2 ^ 250) < i ∧ i < 2 ^ 250) : biD .divmod [.int i, .int j] h = some (.ok (.tup [.int (i / j), .int (i % j)]), h) := if_pos c
@[simp] theorem bi_int : biD .int [.int i] h = some (.ok (.int i), h) := id rfl
@[simp] theorem bi_intB (b : Bool) : biD .int [.bl b] h = some (.ok (.int (if b then 1 else 0)), h) := id rfl
@[simp] theorem bi_lenT (xs : List D) : biD .len [.tup xs] h = some (.ok (.int xs.length), h) := id rfl
theorem bi_lenL {a : Nat} {xs : List D} (e : h.get a = some (.lst xs)) : biD .len [.ref a] h = some (.ok (.int xs.length), h) := by simp only [biD, e]; rfl
@[simp] theorem bi_min : biD .min2 [.int i, .int j] h = some (.ok (.int (if j < i then j else i)), h) := id rfl
@[simp] theorem bi_max : biD .max2 [.int i, .int j] h = some (.ok (.int (if j > i then j else i)), h) := id rfl
@[simp] theorem lmin_nil {d : Int} : lmin d [] = d := rfl
@[simp] theorem bi_abs : biD .abs [.int i] h = some (.ok (.int (if i < 0 then -i else i)), h) := id rfl
@[simp] theorem tr_b (b : Bool) : truD (.bl b) h = some b := id rfl
@[simp] theorem tr_i : truD (.int i) h = some (i != 0) := id rfl
@[simp] theorem ty_i : tyN (.int i) h = some "int" := id rfl
@[simp] theorem ty_b (b : Bool) : tyN (.bl b) h = some "bool" := id rfl
@[simp] theorem ty_s (b : Str) : tyN (.str b) h = some "str" := id rfl
@[simp] theorem ty_n : tyN .non h = some "NoneType" := id rfl
@[simp] theorem ty_t (xs : List D) : tyN (.tup xs) h = some "tuple" := id rfl
theorem ty_l {a : Nat} {xs : List D} (e : h.get a = some (.lst xs)) : tyN (.ref a) h = some "list" := by simp only [tyN, e]
@[simp] theorem isTn_ii : isTn "int" .int = true := by decide
@[simp] theorem isTn_ib : isTn "int" .bool = false := by decide
@[simp] theorem isTn_bi : isTn "bool" .int = true := by decide
@[simp] theorem isTn_bb : isTn "bool" .bool = true := by decide
@[simp] theorem isTn_ss : isTn "str" .str = true := by decide
@[simp] theorem isTn_tt : isTn "tuple" .tuple = true := by decide
@[simp] theorem isTn_ll : isTn "list" .list = true := by decide
@[simp] theorem ix_tup (xs : List D) : idxD (.tup xs) (.int i) h = atD xs i := id rfl
theorem ix_lst {a : Nat} {xs : List D} (e : h.get a = some (.lst xs)) : idxD (.ref a) (.int i) h = atD xs i := by simp only [idxD, e]
@[simp] theorem atD_0 {α : Type} (x : α) (xs : List α) : atD (x :: xs) 0 = some x := id rfl
@[simp] theorem atD_1 {α : Type} (x y : α) (xs : List α) : atD (x :: y :: xs) 1 = some y := id rfl
@[simp] theorem atD_2 {α : Type} (x y z : α) (xs : List α) : atD (x :: y :: z :: xs) 2 = some z := id rfl
@[simp] theorem atD_3 {α : Type} (x y z u : α) (xs : List α) : atD (x :: y :: z :: u :: xs) 3 = some u := id rfl
@[simp] theorem atD_4 {α : Type} (x y z u v : α) (xs : List α) : atD (x :: y :: z :: u :: v :: xs) 4 = some v := id rfl
theorem atD_nat {α : Type} (xs : List α) (k : Nat) : atD xs (k : Int) = xs[k]? := by unfold atD; rw [if_pos (Int.natCast_nonneg k)]; rfl
end

structure Gro (h h' : Hm) : Prop where
  le : h.next ≤ h'.next
  at_ : ∀ a, a < h.next → h'.get a = h.get a
theorem Gro.refl {h : Hm} : Gro h h := ⟨Nat.le_refl _, fun _ _ => rfl⟩
theorem Gro.trans {h h' h'' : Hm} (a : Gro h h') (b : Gro h' h'') : Gro h h'' := ⟨Nat.le_trans a.le b.le, fun x hx => (b.at_ x (Nat.lt_of_lt_of_le hx a.le)).trans (a.at_ x hx)⟩
theorem Gro.new {h : Hm} {o : O} : Gro h (h.new o) := ⟨Nat.le_succ _, fun a ha => by rw [new_get, if_neg (Nat.ne_of_lt ha)]⟩
theorem Gro.put {h h' : Hm} {a : Nat} {o : O} (g : Gro h h') (ha : h.next ≤ a) : Gro h (h'.put a o) := ⟨g.le, fun b hb => by rw [put_get, if_neg (by omega)]; exact g.at_ b hb⟩

theorem stays_nil (h : Hm) : stays [] h := fun _ hp => by cases hp
theorem forL_thru {fb : Env → Hm → Out} {g : Tg} {gd : List (Nat × O)} (I : List D → Env → Hm → Prop) (hs : ∀ xs env h, I xs env h → stays gd h)
    (step : ∀ x xs env h, I (x :: xs) env h → ∃ env1 env2 h2, asgT g x env = some env1 ∧ fb env1 h = some (.nx, env2, h2) ∧ I xs env2 h2) :
    ∀ xs env h, I xs env h → ∃ env' h', forL fb g gd xs env h = some (.nx, env', h') ∧ I [] env' h'
  | [], env, h, i => by
    refine ⟨env, h, ?_, i⟩
    unfold forL
    rw [if_pos (hs _ _ _ i)]
    rfl
  | x :: xs, env, h, i => by
    obtain ⟨env1, env2, h2, e1, e2, i2⟩ := step x xs env h i
    obtain ⟨env', h', e3, i3⟩ := forL_thru I hs step xs env2 h2 i2
    refine ⟨env', h', ?_, i3⟩
    unfold forL
    rw [if_pos (hs _ _ _ i), e1]
    simp only [e2, thenS_nx]
    exact e3
set_option checkBinderAnnotations false in
def bndNI {α β : Type} (m : Res α) [f : α → Hm → Res β] : RF f (Res β) := bndN m f
@[simp] theorem bndNI_ok {α β : Type} (a : α) (h : Hm) (f : α → Hm → Res β) : @bndNI α β (some (.ok a, h)) f = f a h := id rfl
theorem forL_nil {fb : Env → Hm → Out} {g : Tg} {gd : List (Nat × O)} {env : Env} {h : Hm} (hs : stays gd h) : forL fb g gd [] env h = some (.nx, env, h) := by
  unfold forL; rw [if_pos hs]; rfl
theorem forL_cons {fb : Env → Hm → Out} {g : Tg} {gd : List (Nat × O)} {x : D} {xs : List D} {env : Env} {h : Hm} (hs : stays gd h) :
    forL fb g gd (x :: xs) env h = @someI _ _ (asgT g x env) fun env1 => @thenSI (fb env1 h) fun env2 h2 => forL fb g gd xs env2 h2 := by
  rw [forL, if_pos hs]
  cases asgT g x env <;> rfl
theorem compL_nil {fe : Env → Hm → Res D} {ft : Env → Hm → Res Bool} {g : Tg} {gd : List (Nat × O)} {a : Nat} {env : Env} {h : Hm} (hs : stays gd h) : compL fe ft g gd a env [] h = some (.ok (.ref a), h) := by
  unfold compL; rw [if_pos hs]; rfl
theorem put_self {h : Hm} {a : Nat} {o : O} (e : h.get a = some o) : h.put a o = h := by
  obtain ⟨g, n⟩ := h
  show (⟨_, _⟩ : Hm) = _
  congr 1
  funext b
  by_cases hb : b = a
  · subst hb; rw [if_pos rfl]; exact e.symm
  · rw [if_neg hb]
@[simp] theorem put_put {h : Hm} {a : Nat} {o o' : O} : (h.put a o).put a o' = h.put a o' := by
  show (⟨_, _⟩ : Hm) = ⟨_, _⟩
  congr 1
  funext b
  by_cases hb : b = a
  · rw [if_pos hb, if_pos hb]
  · rw [if_neg hb, if_neg hb]; show (if b = a then _ else _) = _; rw [if_neg hb]
@[simp] theorem new_put {h : Hm} {o o' : O} : (h.new o).put h.next o' = h.new o' := by
  show (⟨_, _⟩ : Hm) = ⟨_, _⟩
  congr 1
  funext b
  by_cases hb : b = h.next
  · rw [if_pos hb, if_pos hb]
  · rw [if_neg hb, if_neg hb]; show (if b = h.next then _ else _) = _; rw [if_neg hb]
@[simp] theorem asgT_name (i : Nat) (x : D) (env : Env) : asgT (.name i) x env = some (env.set i (some x)) := id rfl
@[simp] theorem walk_tup (xs : List D) (h : Hm) : walk .seq [.tup xs] h = some (xs, []) := id rfl
theorem walk_lst {a : Nat} {xs : List D} {h : Hm} (e : h.get a = some (.lst xs)) : walk .seq [.ref a] h = some (xs, [(a, .lst xs)]) := by simp only [walk, e]
@[simp] theorem walk_r1 {n : Int} (c : -(2 ^ 62) ≤ n ∧ n < 2 ^ 62) {h : Hm} : walk .range1 [.int n] h = some ((List.range n.toNat).map fun (i : Nat) => .int (i : Int), []) := if_pos c
@[simp] theorem walk_r2 {m n : Int} (c : (-(2 ^ 62) ≤ m ∧ m < 2 ^ 62) ∧ (-(2 ^ 62) ≤ n ∧ n < 2 ^ 62)) {h : Hm} : walk .range2 [.int m, .int n] h = some ((List.range (n - m).toNat).map fun (i : Nat) => .int (m + (i : Int)), []) := if_pos c
@[simp] theorem wipe_nil (env : Env) : wipeE env [] = env := id rfl
@[simp] theorem wipe_cons (env : Env) (v : Nat) (vs : List Nat) : wipeE env (v :: vs) = (wipeE env vs).set v none := id rfl
@[simp] theorem in_name (i : Nat) (own : List Nat) : (Tg.name i).in_ own = own.contains i := id rfl
theorem forL_quiet {fb : Env → Hm → Out} {g : Tg} {gd : List (Nat × O)} (E : Env → Prop) (G : Hm → Prop) (hs : ∀ h, G h → stays gd h) :
    ∀ (xs : List D), (∀ x ∈ xs, ∀ env h, E env → G h → ∃ env1 env2 h2, asgT g x env = some env1 ∧ fb env1 h = some (.nx, env2, h2) ∧ E env2 ∧ G h2) → ∀ env h, E env → G h → ∃ env' h', forL fb g gd xs env h = some (.nx, env', h') ∧ E env' ∧ G h' := fun xs step env h e gh => by
  obtain ⟨env', h', e1, i1, i2⟩ := forL_thru (fb := fb) (g := g) (gd := gd) (fun ys env h => (∀ y ∈ ys, y ∈ xs) ∧ E env ∧ G h) (fun _ _ h i => hs h i.2.2)
    (fun y ys env h i => by
      obtain ⟨env1, env2, h2, a1, a2, a3, a4⟩ := step y (i.1 y (List.mem_cons_self ..)) env h i.2.1 i.2.2
      exact ⟨env1, env2, h2, a1, a2, fun z hz => i.1 z (List.mem_cons_of_mem _ hz), a3, a4⟩) xs env h ⟨fun _ hy => hy, e, gh⟩
  exact ⟨env', h', e1, i2⟩
@[simp] theorem h0_get (ns : List Int) : (h0 ns).get 0 = some (.fz (ns.map D.int)) := id rfl
@[simp] theorem h0_next (ns : List Int) : (h0 ns).next = 1 := id rfl
theorem cut_to {α : Type} (xs : List α) (k : Nat) : cut xs none (some (k : Int)) = xs.take k := by
  unfold cut sI
  dsimp only
  rw [if_neg (by omega), Int.toNat_natCast, List.drop_zero, Nat.sub_zero]
  by_cases hk : k ≤ xs.length
  · rw [Nat.min_eq_left hk]
  · rw [Nat.min_eq_right (by omega), List.take_of_length_le (Nat.le_refl _), List.take_of_length_le (by omega)]
@[simp] theorem lim_eq : lim = 1000000 := id rfl
section
variable {a : Nat} {h : Hm} {xs : List D} {v x : D} {i : Int}
def walkO (o : Option O) (a : Nat) : Option (List D × List (Nat × O)) := match o with
  | some (.lst xs) => some (xs, [(a, .lst xs)])
  | some (.fz xs) => some (xs, [(a, .fz xs)])
  | _ => none
@[simp] theorem walk_ref : walk .seq [.ref a] h = walkO (h.get a) a := id rfl
@[simp] theorem walkO_l : walkO (some (.lst xs)) a = some (xs, [(a, .lst xs)]) := id rfl
@[simp] theorem walkO_f : walkO (some (.fz xs)) a = some (xs, [(a, .fz xs)]) := id rfl
def seqO (o : Option O) : Option (List D) := match o with
  | some (.lst xs) => some xs
  | some (.fz xs) => some xs
  | _ => none
@[simp] theorem seqO_l : seqO (some (.lst xs)) = some xs := id rfl
@[simp] theorem seqO_f : seqO (some (.fz xs)) = some xs := id rfl
@[simp] theorem seqOf_ref : seqOf (.ref a) h = seqO (h.get a) := id rfl
@[simp] theorem seqOf_tup : seqOf (.tup xs) h = some xs := id rfl
@[simp] theorem lstOf_ref : lstOf (.ref a) h = seqO (h.get a) := id rfl
def atO (o : Option (List D)) (i : Int) : Option D := match o with
  | some xs => atD xs i
  | none => none
@[simp] theorem atO_s : atO (some xs) i = atD xs i := id rfl
@[simp] theorem idx_ref : idxD (.ref a) (.int i) h = atO (seqO (h.get a)) i := by
  cases e : h.get a with
  | none => simp only [idxD, e]; rfl
  | some o => cases o <;> (simp only [idxD, e]; rfl)
def slcO (o : Option (List D)) (lo hi : Option Int) (h : Hm) : Res D := match o with
  | some xs => some (.ok (.ref h.next), h.new (.lst (cut xs lo hi)))
  | none => none
@[simp] theorem slcO_s {lo hi : Option Int} : slcO (some xs) lo hi h = some (.ok (.ref h.next), h.new (.lst (cut xs lo hi))) := id rfl
@[simp] theorem slc_ref {lo hi : Option Int} : slcD (.ref a) lo hi h = slcO (seqO (h.get a)) lo hi h := by
  cases e : h.get a with
  | none => simp only [slcD, e]; rfl
  | some o => cases o <;> (simp only [slcD, e]; rfl)
@[simp] theorem slc_tup {lo hi : Option Int} : slcD (.tup xs) lo hi h = some (.ok (.tup (cut xs lo hi)), h) := id rfl
def lenO (o : Option O) (h : Hm) : Res D := match o with
  | some (.lst xs) => ok (.int xs.length) h
  | some (.fz xs) => ok (.int xs.length) h
  | some (.dic kvs) => ok (.int kvs.length) h
  | _ => none
@[simp] theorem lenO_l : lenO (some (.lst xs)) h = some (.ok (.int xs.length), h) := id rfl
@[simp] theorem lenO_f : lenO (some (.fz xs)) h = some (.ok (.int xs.length), h) := id rfl
@[simp] theorem len_ref : biD .len [.ref a] h = lenO (h.get a) h := id rfl
def addO (o o' : Option O) (h : Hm) : Res D := match o, o' with
  | some (.lst xs), some (.lst ys) => if xs.length + ys.length ≤ 1000000 then some (.ok (.ref h.next), h.new (.lst (xs ++ ys))) else none
  | _, _ => none
@[simp] theorem addO_l {ys : List D} (c : xs.length + ys.length ≤ 1000000) : addO (some (.lst xs)) (some (.lst ys)) h = some (.ok (.ref h.next), h.new (.lst (xs ++ ys))) := if_pos c
@[simp] theorem add_ref {b : Nat} : binD .add (.ref a) (.ref b) h = addO (h.get a) (h.get b) h := by
  cases e : h.get a with
  | none => simp only [binD, e]; rfl
  | some o => cases o <;> (simp only [binD, e]; rfl)
def appO (o : Option O) (a : Nat) (v : D) (h : Hm) : Res D := match o with
  | some (.lst xs) => if xs.length < 1000000 then some (.ok .non, h.put a (.lst (xs ++ [v]))) else none
  | _ => none
@[simp] theorem appO_l (c : xs.length < 1000000) : appO (some (.lst xs)) a v h = some (.ok .non, h.put a (.lst (xs ++ [v]))) := if_pos c
@[simp] theorem app_ref : bmD .append (.ref a) [v] h = appO (h.get a) a v h := by
  cases e : h.get a with
  | none => simp only [bmD, e]; rfl
  | some o => cases o <;> (simp only [bmD, e]; rfl)
@[simp] theorem rcv_app : rcv .append x h = (lstOf x h).isSome := id rfl
@[simp] theorem rcv_pop : rcv .pop x h = (lstOf x h).isSome := id rfl
def popO (o : Option O) (a : Nat) (h : Hm) : Res D := match o with
  | some (.lst xs) => (match xs.getLast? with
    | some y => some (.ok y, h.put a (.lst xs.dropLast))
    | none => none)
  | _ => none
@[simp] theorem popO_l {y : D} : popO (some (.lst (xs ++ [y]))) a h = some (.ok y, h.put a (.lst xs)) := by
  simp [popO]
@[simp] theorem pop_ref : bmD .pop (.ref a) [] h = popO (h.get a) a h := by
  cases e : h.get a with
  | none => simp only [bmD, e]; rfl
  | some o => cases o <;> (simp only [bmD, e]; rfl)
def tyO (o : Option O) : Option String := match o with
  | some (.lst _) => some "list"
  | some (.fz _) => some "list"
  | some (.dic _) => some "dict"
  | _ => none
@[simp] theorem tyO_l : tyO (some (.lst xs)) = some "list" := id rfl
@[simp] theorem tyO_f : tyO (some (.fz xs)) = some "list" := id rfl
@[simp] theorem ty_ref : tyN (.ref a) h = tyO (h.get a) := id rfl
def truO (o : Option O) : Option Bool := match o with
  | some (.lst xs) => some (!xs.isEmpty)
  | some (.fz xs) => some (!xs.isEmpty)
  | some (.dic kvs) => some (!kvs.isEmpty)
  | _ => none
@[simp] theorem truO_l : truO (some (.lst xs)) = some (!xs.isEmpty) := id rfl
@[simp] theorem tru_ref : truD (.ref a) h = truO (h.get a) := id rfl
@[simp] theorem tru_tup : truD (.tup xs) h = some (!xs.isEmpty) := id rfl
def seqK (x : D) (h : Hm) : Option (List D) := match seqOf x h with
  | some xs => some xs
  | none => (match x with
    | .ref a => (match h.get a with
      | some (.dic kvs) => some (kvs.map fun kv => keyD kv.1)
      | _ => none)
    | _ => none)
def seqKO (o : Option O) : Option (List D) := match o with
  | some (.lst xs) => some xs
  | some (.fz xs) => some xs
  | some (.dic kvs) => some (kvs.map fun kv => keyD kv.1)
  | _ => none
@[simp] theorem seqKO_l {xs : List D} : seqKO (some (.lst xs)) = some xs := id rfl
@[simp] theorem seqKO_f {xs : List D} : seqKO (some (.fz xs)) = some xs := id rfl
@[simp] theorem seqKO_d {kvs : List (L2.Key × D)} : seqKO (some (.dic kvs)) = some (kvs.map fun kv => keyD kv.1) := id rfl
@[simp] theorem seqK_tup {xs : List D} : seqK (.tup xs) h = some xs := id rfl
@[simp] theorem seqK_ref {a : Nat} : seqK (.ref a) h = seqKO (h.get a) := by
  cases e : h.get a with
  | none => simp only [seqK, seqOf, e]; rfl
  | some o => cases o <;> (simp only [seqK, seqOf, e]; rfl)
@[simp] theorem bi_list : biD .list [x] h = @someI _ _ (seqK x h) fun xs => some (.ok (.ref h.next), h.new (.lst xs)) := by
  unfold seqK
  simp only [biD]
  cases e : seqOf x h with
  | some xs => rfl
  | none =>
    cases x with
    | ref a =>
      dsimp only
      cases e2 : h.get a with
      | none => rfl
      | some o => cases o <;> rfl
    | _ => rfl
@[simp] theorem bi_tuple : biD .tuple [x] h = @someI _ _ (seqOf x h) fun xs => some (.ok (.tup xs), h) := by
  cases e : seqOf x h <;> (simp only [biD, e]; rfl)
end
@[simp] theorem stays_nl (h : Hm) : stays [] h ↔ True := ⟨fun _ => trivial, fun _ => stays_nil h⟩
@[simp] theorem stays_cons (a : Nat) (o : O) (r : List (Nat × O)) (h : Hm) : stays ((a, o) :: r) h ↔ h.get a = some o ∧ stays r h :=
  ⟨fun s => ⟨s _ (List.mem_cons_self ..), fun p hp => s p (List.mem_cons_of_mem _ hp)⟩, fun s p hp => by
    cases hp with
    | head => exact s.1
    | tail _ z => exact s.2 p z⟩

section
variable {h : Hm} {a : Nat} {o o' : O}
@[simp high] theorem new_get_lt (c : a < h.next) : (h.new o).get a = h.get a := by rw [new_get, if_neg (Nat.ne_of_lt c)]
@[simp high] theorem put_get_ne {b : Nat} (c : a ≠ b) : (h.put b o).get a = h.get a := by rw [put_get, if_neg c]
@[simp] theorem new_put_eq (c : a = h.next) : (h.new o).put a o' = h.new o' := by rw [c, new_put]
@[simp] theorem new_put_lt (c : a < h.next) : (h.new o).put a o' = (h.put a o').new o := by
  show (⟨_, _⟩ : Hm) = ⟨_, _⟩
  congr 1
  funext b
  show (if b = a then _ else if b = h.next then _ else _) = if b = h.next then _ else if b = a then _ else _
  by_cases hb : b = a
  · rw [if_pos hb, if_neg (by omega), if_pos hb]
  · rw [if_neg hb, if_neg hb]
@[simp] theorem new2_put {o1 o2 : O} : ((h.new o1).new o2).put (h.next + 1) o = (h.new o1).new o := new_put
@[simp] theorem new3_put {o1 o2 o3 : O} : (((h.new o1).new o2).new o3).put (h.next + 1 + 1) o = ((h.new o1).new o2).new o := new_put
@[simp] theorem new4_put {o1 o2 o3 o4 : O} : ((((h.new o1).new o2).new o3).new o4).put (h.next + 1 + 1 + 1) o = (((h.new o1).new o2).new o3).new o := new_put
theorem gro_new {h' : Hm} (g : Gro h h') : Gro h (h'.new o) := g.trans .new
end
theorem compL_mapA {α : Type} {fe : Env → Hm → Res D} {ft : Env → Hm → Res Bool} {g : Tg} {gd : List (Nat × O)} {a : Nat} {env : Env} (A G : α → D) (hgd : ∀ h : Hm, stays gd h → ∀ o, stays gd (h.put a o)) : ∀ (cs : List α) (acc : List D) (h : Hm),
    (∀ c ∈ cs, ∃ env1, asgT g (A c) env = some env1 ∧ ∀ h, ft env1 h = some (.ok true, h) ∧ (stays gd h → fe env1 h = some (.ok (G c), h))) → stays gd h → h.get a = some (.lst acc) → acc.length + cs.length ≤ 1000000 →
    compL fe ft g gd a env (cs.map A) h = some (.ok (.ref a), h.put a (.lst (acc ++ cs.map G)))
  | [], acc, h, hx, hs, ha, hl => by rw [List.map_nil, compL_nil hs, List.map_nil, List.append_nil, put_self ha]
  | x :: xs, acc, h, hx, hs, ha, hl => by
    obtain ⟨env1, e1, e2⟩ := hx x (List.mem_cons_self ..)
    rw [List.map_cons]
    unfold compL
    rw [if_pos hs, e1]
    have hlt : acc.length < lim := by unfold lim; rw [List.length_cons] at hl; omega
    simp only [(e2 h).1, (e2 h).2 hs, bndN_ok, if_true, ha, hlt]
    rw [compL_mapA A G hgd xs (acc ++ [G x]) _ (fun y hy => hx y (List.mem_cons_of_mem _ hy)) (hgd h hs _) (by rw [put_get, if_pos rfl]) (by rw [List.length_append]; rw [List.length_cons] at hl; simp; omega), put_put, List.append_assoc]
    rfl
theorem compL_map {α : Type} {fe : Env → Hm → Res D} {ft : Env → Hm → Res Bool} {g : Tg} {gd : List (Nat × O)} {a : Nat} {env : Env} {cs : List α} {h : Hm} (A G : α → D) (hgd : ∀ p ∈ gd, p.1 ≠ a)
    (hx : ∀ c ∈ cs, ∃ env1, asgT g (A c) env = some env1 ∧ ∀ h, ft env1 h = some (.ok true, h) ∧ (stays gd h → fe env1 h = some (.ok (G c), h))) (hs : stays gd h) (ha : h.get a = some (.lst [])) (hl : cs.length ≤ 1000000) :
    compL fe ft g gd a env (cs.map A) h = some (.ok (.ref a), h.put a (.lst (cs.map G))) := by
  rw [compL_mapA A G (fun h1 s1 o p hp => by rw [put_get, if_neg (hgd p hp)]; exact s1 p hp) cs [] h hx hs ha (by simpa using hl)]
  rfl
theorem Gro.get {h h' : Hm} (g : Gro h h') {a : Nat} {o : Option O} (e : h.get a = o) (l : a < h.next) : h'.get a = o := (g.at_ a l).trans e
end Z

set_option maxRecDepth 100000
set_option maxHeartbeats 2000000
namespace Z
open PySem
def lastV {α : Type} (A : α → D) (l : Option D) (done : List α) : Option D := match done.getLast? with
  | some c => some (A c)
  | none => l
@[simp] theorem lastV_snoc {α : Type} (A : α → D) (l : Option D) (done : List α) (c : α) : lastV A l (done ++ [c]) = some (A c) := by unfold lastV; simp
@[simp] theorem lastV_nil {α : Type} (A : α → D) (l : Option D) : lastV A l [] = l := id rfl
theorem forL_inv {α σ : Type} {fb : Env → Hm → Out} {g : Tg} {gd : List (Nat × O)} (A : α → D) (S : σ → Env) (H : σ → Hm) (f : σ → α → σ) (I : σ → Prop) : ∀ {cs : List α}, (∀ s, I s → ∀ c ∈ cs, I (f s c)) → ∀ {s : σ}, I s → I (cs.foldl f s)
  | [], _, _, i => i
  | c :: cs, step, s, i => forL_inv (fb := fb) (g := g) (gd := gd) A S H f I (fun s i c hc => step s i c (List.mem_cons_of_mem _ hc)) (step s i c (List.mem_cons_self ..))
section
variable {h : Hm} {i j : Int}
@[simp] theorem b_pow (c : 0 ≤ j ∧ j ≤ 1000000 ∧ -(2 ^ 64) < i ∧ i < 2 ^ 64) : binD .pow (.int i) (.int j) h = some (.ok (.int (i ^ j.toNat)), h) := if_pos ⟨c.1, c.2.1, c.2.2⟩
end
def cell (ns : List Int) (k : Nat) : Int := (ns[k]?).getD 0
theorem at_script (ns : List Int) (k : Nat) (hk : k < ns.length) : atD (ns.map D.int) (k : Int) = some (.int (cell ns k)) := by
  rw [atD_nat, List.getElem?_map]
  unfold cell
  rw [List.getElem?_eq_getElem hk]
  rfl
theorem cell_out (ns : List Int) (k : Nat) (hk : ¬ k < ns.length) : cell ns k = 0 := by
  unfold cell
  rw [List.getElem?_eq_none (by omega)]
  rfl

@[simp] theorem atD_lit {α : Type} (xs : List α) (k : Nat) : atD xs (no_index (@OfNat.ofNat Int k _)) = xs[k]? := atD_nat xs k
section
variable {h : Hm} {x : D} {xs : List D}
@[simp] theorem in_tup : cmpD .inn x (.tup xs) h = inL x xs := id rfl
@[simp] theorem nin_tup : cmpD .nin x (.tup xs) h = (inL x xs).map fun b => !b := id rfl
def inO (x : D) (o : Option (List D)) : Option Bool := match o with
  | some xs => inL x xs
  | none => none
@[simp] theorem inO_s : inO x (some xs) = inL x xs := id rfl
@[simp] theorem aug_add (i j : Int) : augD .add (.int i) (.int j) = some (.int (i + j)) := id rfl
@[simp] theorem aug_sub (i j : Int) : augD .sub (.int i) (.int j) = some (.int (i - j)) := id rfl
@[simp] theorem c_eqB (a b : Bool) : cmpD .eq (.bl a) (.bl b) h = some (decide (a = b)) := id rfl
@[simp] theorem c_neB (a b : Bool) : cmpD .ne (.bl a) (.bl b) h = some (!decide (a = b)) := id rfl
@[simp] theorem c_isNN : cmpD .isN .non .non h = some true := id rfl
@[simp] theorem c_notNN : cmpD .notN .non .non h = some false := id rfl
@[simp] theorem c_isNi (i : Int) : cmpD .isN (.int i) .non h = some false := id rfl
@[simp] theorem c_notNi (i : Int) : cmpD .notN (.int i) .non h = some true := id rfl
@[simp] theorem c_isNr (i : Nat) : cmpD .isN (.ref i) .non h = some false := id rfl
@[simp] theorem c_notNr (i : Nat) : cmpD .notN (.ref i) .non h = some true := id rfl
@[simp] theorem c_isNs (i : Str) : cmpD .isN (.str i) .non h = some false := id rfl
@[simp] theorem c_notNs (i : Str) : cmpD .notN (.str i) .non h = some true := id rfl
@[simp] theorem c_isNt (i : List D) : cmpD .isN (.tup i) .non h = some false := id rfl
@[simp] theorem c_notNt (i : List D) : cmpD .notN (.tup i) .non h = some true := id rfl
@[simp] theorem flat_i (i : Int) : flatD (.int i) = true := id rfl
@[simp] theorem flat_s (i : Str) : flatD (.str i) = true := id rfl
@[simp] theorem flat_b (i : Bool) : flatD (.bl i) = true := id rfl
@[simp] theorem flat_n : flatD .non = true := id rfl
@[simp] theorem eqF_s (a b : Str) : eqF (.str a) (.str b) = decide (a = b) := by show (a == b) = _; rw [Bool.eq_iff_iff, beq_iff_eq, decide_eq_true_eq]
@[simp] theorem eqF_i (a b : Int) : eqF (.int a) (.int b) = decide (a = b) := by show (a == b) = _; rw [Bool.eq_iff_iff, beq_iff_eq, decide_eq_true_eq]
theorem inL_flat (hx : flatD x = true) (hs : xs.all flatD = true) : inL x xs = some (xs.any fun y => eqF y x) := if_pos ⟨hx, hs⟩
@[simp] theorem inL_s (s : Str) : inL (.str s) xs = if xs.all flatD = true then some (xs.any fun y => eqF y (.str s)) else none := by
  unfold inL
  by_cases hs : xs.all flatD = true
  · rw [if_pos hs, if_pos ⟨rfl, hs⟩]
  · rw [if_neg hs, if_neg fun z => hs z.2]
@[simp] theorem inL_i (s : Int) : inL (.int s) xs = if xs.all flatD = true then some (xs.any fun y => eqF y (.int s)) else none := by
  unfold inL
  by_cases hs : xs.all flatD = true
  · rw [if_pos hs, if_pos ⟨rfl, hs⟩]
  · rw [if_neg hs, if_neg fun z => hs z.2]
end
def eqPP (p q : Option PyData) : Option Bool := match p, q with
  | some d, some e => if (SeqAt.shaped d && SeqAt.shaped e) = true then some (PyData.eqv d e) else none
  | _, _ => none
def datO (f : D → Option PyData) (o : Option O) : Option PyData := match o with
  | some (.lst xs) => (mapO f xs).map .list
  | some (.fz xs) => (mapO f xs).map .list
  | _ => none
section
variable {h : Hm} {n : Nat}
@[simp] theorem eq_rr (a b : Nat) : cmpD .eq (.ref a) (.ref b) h = eqPP (dat h 30 (.ref a)) (dat h 30 (.ref b)) := id rfl
@[simp] theorem ne_rr (a b : Nat) : cmpD .ne (.ref a) (.ref b) h = (eqPP (dat h 30 (.ref a)) (dat h 30 (.ref b))).map fun b => !b := id rfl
@[simp] theorem eq_tt (a b : List D) : cmpD .eq (.tup a) (.tup b) h = eqPP (dat h 30 (.tup a)) (dat h 30 (.tup b)) := id rfl
@[simp] theorem ne_tt (a b : List D) : cmpD .ne (.tup a) (.tup b) h = (eqPP (dat h 30 (.tup a)) (dat h 30 (.tup b))).map fun b => !b := id rfl
@[simp] theorem dat_ref (a : Nat) : dat h (n + 1) (.ref a) = datO (dat h n) (h.get a) := by
  rw [dat]
  cases h.get a with
  | none => rfl
  | some o => cases o <;> rfl
@[simp] theorem dat_tup (xs : List D) : dat h (n + 1) (.tup xs) = (mapO (dat h n) xs).map .tuple := by rw [dat]
@[simp] theorem dat_int (i : Int) : dat h n (.int i) = some (.int i) := by cases n <;> rw [dat]
@[simp] theorem dat_str (i : Str) : dat h n (.str i) = some (.str i) := by cases n <;> rw [dat]
@[simp] theorem dat_bl (i : Bool) : dat h n (.bl i) = some (.bool i) := by cases n <;> rw [dat]
@[simp] theorem dat_non : dat h n .non = some .none := by cases n <;> rw [dat]
@[simp] theorem datO_l (f : D → Option PyData) (xs : List D) : datO f (some (.lst xs)) = (mapO f xs).map .list := id rfl
@[simp] theorem datO_f (f : D → Option PyData) (xs : List D) : datO f (some (.fz xs)) = (mapO f xs).map .list := id rfl
@[simp] theorem mapO_nil {α β : Type} (f : α → Option β) : mapO f [] = some [] := id rfl
theorem mapO_cons {α β : Type} (f : α → Option β) (x : α) (xs : List α) {y : β} {ys : List β} (e : f x = some y) (e2 : mapO f xs = some ys) : mapO f (x :: xs) = some (y :: ys) := by simp only [mapO, e, e2]
theorem mapO_map {α β γ : Type} (f : β → Option γ) (A : α → β) (B : α → γ) : ∀ cs : List α, (∀ c ∈ cs, f (A c) = some (B c)) → mapO f (cs.map A) = some (cs.map B)
  | [], _ => rfl
  | c :: cs, hx => mapO_cons f _ _ (hx c (List.mem_cons_self ..)) (mapO_map f A B cs fun x h => hx x (List.mem_cons_of_mem _ h))
@[simp] theorem mapO_ints (us : List Int) : mapO (dat h n) (us.map D.int) = some (us.map PyData.int) := mapO_map _ _ _ us fun c _ => dat_int c
theorem lay_ints : ∀ us : List Int, PyData.canLayAll0 (us.map PyData.int) = true
  | [] => by simp only [List.map_nil, PyData.canLayAll0]
  | x :: xs => by simp only [List.map_cons, PyData.canLayAll0, PyData.canLay0, lay_ints xs, Bool.and_self]
theorem dep_ints : ∀ us : List Int, PyData.depthAll (us.map PyData.int) = 0
  | [] => by simp only [List.map_nil, PyData.depthAll]
  | x :: xs => by simp only [List.map_cons, PyData.depthAll, PyData.depth, dep_ints xs, Nat.max_self]
theorem sh_ints (us : List Int) : SeqAt.shaped (.list (us.map PyData.int)) = true := by
  simp only [SeqAt.shaped, PyData.canLay0, PyData.depth, lay_ints, dep_ints]
  rfl
@[simp] theorem eqPP_ints (us vs : List Int) : eqPP (some (.list (us.map .int))) (some (.list (vs.map .int))) = some (decide (us = vs)) := by
  simp only [eqPP, sh_ints, Bool.and_self, if_true, PyData.eqv, PySem.W.ked_eqvAll]
@[simp] theorem eqPP_nil : eqPP (some (.list [])) (some (.list [])) = some true := eqPP_ints [] []
@[simp] theorem eqPP_nilR (us : List Int) : eqPP (some (.list (us.map .int))) (some (.list [])) = some (decide (us = [])) := eqPP_ints us []
@[simp] theorem eqPP_nilL (us : List Int) : eqPP (some (.list [])) (some (.list (us.map .int))) = some (decide ([] = us)) := eqPP_ints [] us
end
@[simp] theorem atD_last {α : Type} (xs : List α) (x : α) : atD (xs ++ [x]) (-1) = some x := by
  unfold atD
  rw [if_neg (by omega), if_pos (by rw [List.length_append]; simp; omega)]
  have e : ((-1 : Int) + ((xs ++ [x]).length : Int)).toNat = xs.length := by rw [List.length_append]; simp; omega
  rw [e]
  simp
@[simp] theorem walk_revR {a : Nat} {h : Hm} : walk .rev [.ref a] h = (walkO (h.get a) a).map fun p => (p.1.reverse, p.2) := by
  cases e : h.get a with
  | none => simp only [walk, e]; rfl
  | some o => cases o <;> (simp only [walk, e]; rfl)
@[simp] theorem walk_revT {xs : List D} {h : Hm} : walk .rev [.tup xs] h = some (xs.reverse, []) := id rfl
@[simp] theorem walk_r3 {i j c : Int} (z : (c = 2 ∨ c = 7) ∧ (-(2 ^ 62) ≤ i ∧ i < 2 ^ 62) ∧ (-(2 ^ 62) ≤ j ∧ j < 2 ^ 62)) {h : Hm} : walk .range3 [.int i, .int j, .int c] h = some ((List.range (if i < j then (j - i - 1) / c + 1 else 0).toNat).map fun (k : Nat) => .int (i + (k : Int) * c), []) := if_pos z
theorem compL_gA {α : Type} {fe : Env → Hm → Res D} {ft : Env → Hm → Res Bool} {g : Tg} {gd : List (Nat × O)} {a : Nat} {env : Env} (A F : α → D) (G : Hm → Prop) (hs : ∀ h, G h → stays gd h) (hp : ∀ h o, G h → G (h.put a o)) : ∀ (cs : List α) (acc : List D) (h : Hm),
    (∀ c ∈ cs, ∃ env1, asgT g (A c) env = some env1 ∧ ∀ h, G h → ft env1 h = some (.ok true, h) ∧ fe env1 h = some (.ok (F c), h)) → G h → h.get a = some (.lst acc) → acc.length + cs.length ≤ 1000000 →
    compL fe ft g gd a env (cs.map A) h = some (.ok (.ref a), h.put a (.lst (acc ++ cs.map F)))
  | [], acc, h, hx, g0, ha, hl => by rw [List.map_nil, compL_nil (hs h g0), List.map_nil, List.append_nil, put_self ha]
  | x :: xs, acc, h, hx, g0, ha, hl => by
    obtain ⟨env1, e1, e2⟩ := hx x (List.mem_cons_self ..)
    rw [List.map_cons]
    unfold compL
    rw [if_pos (hs h g0), e1]
    have hlt : acc.length < lim := by unfold lim; rw [List.length_cons] at hl; omega
    simp only [(e2 h g0).1, (e2 h g0).2, bndN_ok, if_true, ha, hlt]
    rw [compL_gA A F G hs hp xs (acc ++ [F x]) _ (fun y hy => hx y (List.mem_cons_of_mem _ hy)) (hp _ _ g0) (by rw [put_get, if_pos rfl]) (by rw [List.length_append]; rw [List.length_cons] at hl; simp; omega), put_put, List.append_assoc]
    rfl
theorem whl_inv {ft : Env → Hm → Res Bool} {fb : Env → Hm → Out} (I : Nat → Env → Hm → Prop) (e : Nat) (step : ∀ j env h, j < e → I j env h → ft env h = some (.ok true, h) ∧ ∃ env2 h2, fb env h = some (.nx, env2, h2) ∧ I (j + 1) env2 h2)
    (stop : ∀ env h, I e env h → ft env h = some (.ok false, h)) : ∀ (n j : Nat) env h, j ≤ e → e < n + j → I j env h → ∃ env' h', whl ft fb n env h = some (.nx, env', h') ∧ I e env' h'
  | 0, j, env, h, hj, hn, i => by omega
  | n + 1, j, env, h, hj, hn, i => by
    by_cases he : j = e
    · subst he
      refine ⟨env, h, ?_, i⟩
      rw [whl, stop env h i]
      rfl
    · obtain ⟨e1, env2, h2, e2, i2⟩ := step j env h (by omega) i
      obtain ⟨env', h', e3, i3⟩ := whl_inv I e step stop n (j + 1) env2 h2 (by omega) (by omega) i2
      refine ⟨env', h', ?_, i3⟩
      rw [whl, e1]
      simp only [toS_ok, if_true, e2, thenS_nx]
      exact e3
theorem forL_still {fb : Env → Hm → Out} {g : Tg} {gd : List (Nat × O)} {xs : List D} {env : Env} {h : Hm} (E : Env → Prop) (e0 : E env) (hs : stays gd h) (step : ∀ c ∈ xs, ∀ env, E env → ∃ env1, asgT g c env = some env1 ∧ ∃ env2, fb env1 h = some (.nx, env2, h) ∧ E env2) :
    ∃ x, forL fb g gd xs env h = some (.nx, x, h) ∧ E x := by
  obtain ⟨x, h', e1, e2, rfl⟩ := forL_quiet E (fun h' => h' = h) (fun h' e => by rw [e]; exact hs) xs (fun c hc env h' e i => by
    subst i
    obtain ⟨env1, a1, env2, a2, a3⟩ := step c hc env e
    exact ⟨env1, env2, h', a1, a2, a3, rfl⟩) env h e0 rfl
  exact ⟨x, e1, e2⟩
theorem still {fb : Env → Hm → Out} {g : Tg} {gd : List (Nat × O)} {xs : List D} {env : Env} {h : Hm} {k : Env → Hm → Out} (P : Res D → Prop) (E : Env → Prop) (e0 : E env) (hs : stays gd h) (step : ∀ c ∈ xs, ∀ env, E env → ∃ env1, asgT g c env = some env1 ∧ ∃ env2, fb env1 h = some (.nx, env2, h) ∧ E env2)
    (post : ∀ env', E env' → P (endF (k env' h))) : P (endF (@thenSI (forL fb g gd xs env h) k)) := by
  obtain ⟨x, e1, e2⟩ := forL_still E e0 hs step
  rw [e1]
  exact post x e2
end Z

set_option maxRecDepth 100000
set_option maxHeartbeats 2000000
namespace Z
open PySem
def gt (us : List Int) (k : Nat) : Int := us.getD k 0
theorem at_gt (us : List Int) (k : Nat) (hk : k < us.length) : atD (us.map D.int) (k : Int) = some (.int (gt us k)) := by
  rw [atD_nat, List.getElem?_map, List.getElem?_eq_getElem hk, gt, List.getD_eq_getElem?_getD, List.getElem?_eq_getElem hk]; rfl
@[simp high] theorem at_gt_lit (us : List Int) (k : Nat) (hk : k < us.length) : atD (us.map D.int) (no_index (@OfNat.ofNat Int k _)) = some (.int (gt us k)) := at_gt us k hk
theorem cut_map {α β : Type} (f : α → β) (xs : List α) (lo hi : Option Int) : cut (xs.map f) lo hi = (cut xs lo hi).map f := by
  unfold cut
  rw [List.length_map, List.map_take, List.map_drop]
@[simp] theorem eqPP_self (d : PyData) (c : SeqAt.shaped d = true) : eqPP (some d) (some d) = some true := by
  have h1 : d.canLay0 = true := by
    unfold SeqAt.shaped at c
    exact (Bool.and_eq_true_iff.mp c).1
  simp only [eqPP, c, Bool.and_self, if_true, SeqAt.eqv_refl d h1]
@[simp] theorem sh_ints' (us : List Int) : SeqAt.shaped (.list (us.map PyData.int)) = true := sh_ints us
@[simp] theorem sh_paper (p : Int) (us ws : List Int) : SeqAt.shaped (.tuple [.int p, .list (us.map PyData.int), .list (ws.map PyData.int)]) = true := by
  simp only [SeqAt.shaped, PyData.canLay0, PyData.canLayAll0, PyData.depth, PyData.depthAll, lay_ints, dep_ints]
  rfl
theorem ixD_nat (n j : Nat) (hj : j < n) : ixD n (j : Int) = some j := by
  unfold ixD; rw [if_pos (by omega), if_pos (by omega)]; rfl
@[simp] theorem lookup_eq {v : D} (k : String) (r : List (String × D)) : List.lookup k ((k, v) :: r) = some v := by simp [List.lookup]
@[simp] theorem lookup_ne {v : D} {k k' : String} {r : List (String × D)} (e : (k == k') = false) : List.lookup k ((k', v) :: r) = List.lookup k r := by simp only [List.lookup, e]
@[simp] theorem setF_nil (f : String) (v : D) : setF [] f v = [(f, v)] := id rfl
@[simp] theorem setF_cons (f g : String) (v x : D) (r : List (String × D)) : setF ((g, x) :: r) f v = if g = f then (g, v) :: r else (g, x) :: setF r f v := id rfl
section
variable {α : Type} {fb : Env → Hm → Out} {g : Tg} {gd : List (Nat × O)} {cs : List α}
theorem forL_relA (A : α → D) (I : List α → Env → Hm → Prop) (hs : ∀ d env h, I d env h → stays gd h)
    (step : ∀ d c rest env h, cs = d ++ c :: rest → I d env h → ∃ env1, asgT g (A c) env = some env1 ∧ ∃ env2 h2, fb env1 h = some (.nx, env2, h2) ∧ I (d ++ [c]) env2 h2) :
    ∀ (rest d : List α) env h, cs = d ++ rest → I d env h → ∃ env' h', forL fb g gd (rest.map A) env h = some (.nx, env', h') ∧ I cs env' h'
  | [], d, env, h, e, i => by
    rw [List.append_nil] at e
    subst e
    exact ⟨env, h, forL_nil (hs _ _ _ i), i⟩
  | c :: rest, d, env, h, e, i => by
    obtain ⟨env1, e1, env2, h2, e2, i2⟩ := step d c rest env h e i
    obtain ⟨env', h', e3, i3⟩ := forL_relA A I hs step rest (d ++ [c]) env2 h2 (by rw [e, List.append_assoc]; rfl) i2
    refine ⟨env', h', ?_, i3⟩
    rw [List.map_cons, forL_cons (hs _ _ _ i), e1, someI_some, e2, thenSI_nx]
    exact e3
theorem forL_rel (A : α → D) (I : List α → Env → Hm → Prop) {env : Env} {h : Hm} (i0 : I [] env h) (hs : ∀ d env h, I d env h → stays gd h)
    (step : ∀ d c rest env h, cs = d ++ c :: rest → I d env h → ∃ env1, asgT g (A c) env = some env1 ∧ ∃ env2 h2, fb env1 h = some (.nx, env2, h2) ∧ I (d ++ [c]) env2 h2) :
    ∃ env' h', forL fb g gd (cs.map A) env h = some (.nx, env', h') ∧ I cs env' h' := forL_relA A I hs step cs [] env h rfl i0
theorem relO (Q : Out → Prop) (A : α → D) (I : List α → Env → Hm → Prop) {env : Env} {h : Hm} {k : Env → Hm → Out} (i0 : I [] env h) (hs : ∀ d env h, I d env h → stays gd h)
    (step : ∀ d c rest env h, cs = d ++ c :: rest → I d env h → ∃ env1, asgT g (A c) env = some env1 ∧ ∃ env2 h2, fb env1 h = some (.nx, env2, h2) ∧ I (d ++ [c]) env2 h2)
    (post : ∀ env' h', I cs env' h' → Q (k env' h')) : Q (@thenSI (forL fb g gd (cs.map A) env h) k) := by
  obtain ⟨env', h', e1, i1⟩ := forL_rel A I i0 hs step
  rw [e1]
  exact post env' h' i1
theorem rel (P : Res D → Prop) (A : α → D) (I : List α → Env → Hm → Prop) {env : Env} {h : Hm} {k : Env → Hm → Out} (i0 : I [] env h) (hs : ∀ d env h, I d env h → stays gd h)
    (step : ∀ d c rest env h, cs = d ++ c :: rest → I d env h → ∃ env1, asgT g (A c) env = some env1 ∧ ∃ env2 h2, fb env1 h = some (.nx, env2, h2) ∧ I (d ++ [c]) env2 h2)
    (post : ∀ env' h', I cs env' h' → P (endF (k env' h'))) : P (endF (@thenSI (forL fb g gd (cs.map A) env h) k)) :=
  relO (fun o => P (endF o)) A I i0 hs step post
end
section
variable {h : Hm} {a : Nat} {xs : List D} {v x : D} {i : Int}
def insO (o : Option O) (a : Nat) (i : Int) (v : D) (h : Hm) : Res D := match o with
  | some (.lst xs) => if xs.length < 1000000 ∧ 0 ≤ i ∧ i < 2 ^ 62 then some (.ok .non, h.put a (.lst (xs.take i.toNat ++ [v] ++ xs.drop i.toNat))) else none
  | _ => none
@[simp] theorem insO_l (c : xs.length < 1000000 ∧ 0 ≤ i ∧ i < 2 ^ 62) : insO (some (.lst xs)) a i v h = some (.ok .non, h.put a (.lst (xs.take i.toNat ++ [v] ++ xs.drop i.toNat))) := if_pos c
@[simp] theorem ins_ref : bmD .insert (.ref a) [.int i, v] h = insO (h.get a) a i v h := by
  cases e : h.get a with
  | none => simp only [bmD, e]; rfl
  | some o => cases o <;> (simp only [bmD, e]; rfl)
@[simp] theorem rcv_ins : rcv .insert x h = (lstOf x h).isSome := id rfl
@[simp] theorem rcv_clear : rcv .clear x h = (lstOf x h).isSome := id rfl
def clrO (o : Option O) (a : Nat) (h : Hm) : Res D := match o with
  | some (.lst _) => some (.ok .non, h.put a (.lst []))
  | _ => none
@[simp] theorem clrO_l : clrO (some (.lst xs)) a h = some (.ok .non, h.put a (.lst [])) := id rfl
@[simp] theorem clr_ref : bmD .clear (.ref a) [] h = clrO (h.get a) a h := by
  cases e : h.get a with
  | none => simp only [bmD, e]; rfl
  | some o => cases o <;> (simp only [bmD, e]; rfl)
end
abbrev Rw := String × Option Int
def rwD (r : Rw) : D := .tup (.str (Str.ofString r.1) :: (match r.2 with
  | none => []
  | some v => [.int v]))
def rwP (r : Rw) : PyData := .tuple (.str (Str.ofString r.1) :: (match r.2 with
  | none => []
  | some v => [.int v]))
@[simp] theorem dat_rw (h : Hm) (n : Nat) (r : Rw) : dat h (n + 1) (rwD r) = some (rwP r) := by
  obtain ⟨w, x⟩ := r
  cases x <;> (unfold rwD rwP; simp [mapO])
@[simp] theorem mapO_rows (h : Hm) (n : Nat) (rs : List Rw) : mapO (dat h (n + 1)) (rs.map rwD) = some (rs.map rwP) := mapO_map _ _ _ rs fun c _ => dat_rw h n c
def okW (r : Rw) : Bool := PyData.strOk (Str.ofString r.1)
theorem lay_rows : ∀ rs : List Rw, rs.all okW = true → PyData.canLayAll0 (rs.map rwP) = true
  | [], _ => by simp only [List.map_nil, PyData.canLayAll0]
  | r :: rs, h => by
    rw [List.all_cons, Bool.and_eq_true] at h
    have h1 := h.1
    obtain ⟨w, x⟩ := r
    unfold okW at h1
    cases x <;> simp [rwP, PyData.canLayAll0, PyData.canLay0, lay_rows rs h.2, h1]
theorem dep_rows : ∀ rs : List Rw, PyData.depthAll (rs.map rwP) ≤ 1
  | [] => by simp only [List.map_nil, PyData.depthAll]; decide
  | r :: rs => by
    have := dep_rows rs
    obtain ⟨w, x⟩ := r
    cases x <;> (simp [rwP, PyData.depthAll, PyData.depth]; omega)
@[simp] theorem sh_rows (rs : List Rw) (h : rs.all okW = true) : SeqAt.shaped (.list (rs.map rwP)) = true := by
  have := dep_rows rs
  simp [SeqAt.shaped, PyData.canLay0, PyData.depth, lay_rows rs h]
  omega
def S.hd : S → S
  | .seq a _ => a
  | s => s
def S.tl : S → S
  | .seq _ b => b
  | s => s
def S.from : S → Nat → S
  | s, 0 => s
  | s, n + 1 => s.tl.from n
theorem seq_nx {P : Prog} {cl : Cl} {a b : S} {env env1 : Env} {h h1 : Hm} (e : ex P cl a env h = some (.nx, env1, h1)) : ex P cl (.seq a b) env h = ex P cl b env1 h1 := by rw [ex, e, thenS_nx]
@[simp] theorem gro_refl_s {h : Hm} : Gro h h := .refl
@[simp] theorem gro_new_s {h h' : Hm} {o : O} (g : Gro h h') : Gro h (h'.new o) := g.trans .new
@[simp] theorem c_isB (a b : Bool) {h : Hm} : cmpD .isN (.bl a) (.bl b) h = some (decide (a = b)) := id rfl
@[simp] theorem c_notB (a b : Bool) {h : Hm} : cmpD .notN (.bl a) (.bl b) h = some (!decide (a = b)) := id rfl
section
variable {h : Hm} {a : Nat} {xs : List D} {v x : D} {i : Int} {kvs : List (L2.Key × D)} {q : L2.Key}
def dgO (o : Option O) (k : D) : Option (Option D) := match o with
  | some (.dic kvs) => (key? k).map fun q => kget kvs q
  | some (.fzd kvs) => (key? k).map fun q => kget kvs q
  | _ => none
@[simp] theorem dgO_d (k : D) : dgO (some (.dic kvs)) k = (key? k).map fun q => kget kvs q := id rfl
@[simp] theorem dgO_z (k : D) : dgO (some (.fzd kvs)) k = (key? k).map fun q => kget kvs q := id rfl
@[simp] theorem dget_eq (k : D) : dget h a k = dgO (h.get a) k := by
  unfold dget dgO
  cases h.get a with
  | none => rfl
  | some o => cases o <;> rfl
@[simp] theorem key_i : key? (.int i) = some (.inl i) := id rfl
@[simp] theorem key_s (s : Str) : key? (.str s) = some (.inr s) := id rfl
def dpO (o : Option O) (h : Hm) (a : Nat) (k v : D) : Option Hm := match o with
  | some (.dic kvs) => if kvs.length < 1000000 then (key? k).map fun q => h.put a (.dic (kput kvs q v)) else none
  | _ => none
@[simp] theorem dpO_d (k v : D) (c : kvs.length < 1000000) : dpO (some (.dic kvs)) h a k v = (key? k).map fun q => h.put a (.dic (kput kvs q v)) := if_pos c
@[simp] theorem dput_eq (k v : D) : dput h a k v = dpO (h.get a) h a k v := by
  unfold dput dpO
  cases h.get a with
  | none => rfl
  | some o => cases o <;> rfl
def inRO (x : D) (o : Option O) : Option Bool := match o with
  | some (.lst xs) => inL x xs
  | some (.fz xs) => inL x xs
  | some (.dic kvs) => ((key? x).map fun q => kget kvs q).map Option.isSome
  | some (.fzd kvs) => ((key? x).map fun q => kget kvs q).map Option.isSome
  | _ => none
@[simp] theorem inRO_l : inRO x (some (.lst xs)) = inL x xs := id rfl
@[simp] theorem inRO_f : inRO x (some (.fz xs)) = inL x xs := id rfl
@[simp] theorem inRO_d : inRO x (some (.dic kvs)) = ((key? x).map fun q => kget kvs q).map Option.isSome := id rfl
@[simp] theorem in_ref : cmpD .inn x (.ref a) h = inRO x (h.get a) := by
  show inD x (.ref a) h = _
  unfold inD inRO
  dsimp only
  cases e : h.get a with
  | none => rfl
  | some o => cases o <;> (try rfl) <;> (simp only [dget_eq, e]; rfl)
@[simp] theorem nin_ref : cmpD .nin x (.ref a) h = (inRO x (h.get a)).map fun b => !b := by
  show (inD x (.ref a) h).map _ = _
  rw [← in_ref (h := h)]; rfl
def isDO (o : Option O) : Bool := match o with
  | some (.dic _) => true
  | some (.fzd _) => true
  | _ => false
@[simp] theorem isDO_z : isDO (some (.fzd kvs)) = true := id rfl
@[simp] theorem isDO_d : isDO (some (.dic kvs)) = true := id rfl
@[simp] theorem rcv_get : rcv .get (.ref a) h = isDO (h.get a) := by
  first
  | (simp only [rcv, rcv.isDic, isDO]; done)
  | (simp only [rcv, rcv.isDic, isDO]
     cases h.get a with
     | none => rfl
     | some o => cases o <;> rfl)
@[simp] theorem rcv_get2 : rcv .get2 (.ref a) h = isDO (h.get a) := rcv_get (a := a) (h := h)
@[simp] theorem rcv_dpop : rcv .dpop (.ref a) h = isDO (h.get a) := rcv_get (a := a) (h := h)
def getO (m : Option (Option D)) (d : D) (h : Hm) : Res D := match m with
  | some (some v) => some (.ok v, h)
  | some none => some (.ok d, h)
  | none => none
@[simp] theorem getO_s (m : Option D) (d : D) : getO (some m) d h = some (.ok (m.getD d), h) := by cases m <;> rfl
@[simp] theorem bm_get (k : D) : bmD .get (.ref a) [k] h = getO (dget h a k) .non h := by
  simp only [bmD]
  rcases dget h a k with _ | _ | _ <;> rfl
@[simp] theorem bm_get2 (k d : D) : bmD .get2 (.ref a) [k, d] h = getO (dget h a k) d h := by
  simp only [bmD]
  rcases dget h a k with _ | _ | _ <;> rfl
def dpopO (o : Option O) (a : Nat) (k : D) (h : Hm) : Res D := match o with
  | some (.dic kvs) => (match key? k with
    | some q => (match kget kvs q with
      | some v => some (.ok v, h.put a (.dic (kdrop kvs q)))
      | none => none)
    | none => none)
  | _ => none
@[simp] theorem dpopO_i (e : kget kvs (.inl i) = some v) : dpopO (some (.dic kvs)) a (.int i) h = some (.ok v, h.put a (.dic (kdrop kvs (.inl i)))) := by
  simp only [dpopO, key?, e]
@[simp] theorem bm_dpop (k : D) : bmD .dpop (.ref a) [k] h = dpopO (h.get a) a k h := by
  cases e : h.get a with
  | none => simp only [bmD, e]; rfl
  | some o => cases o <;> (simp only [bmD, e]; rfl)
@[simp] theorem lenO_d : lenO (some (.dic kvs)) h = some (.ok (.int kvs.length), h) := id rfl
@[simp] theorem truO_d : truO (some (.dic kvs)) = some (!kvs.isEmpty) := id rfl
end
section
variable {κ α : Type} [DecidableEq κ] {kvs : List (κ × α)}
@[simp] theorem kget_nil (k : κ) : kget ([] : List (κ × α)) k = none := id rfl
theorem kget_cons (p : κ × α) (k : κ) : kget (p :: kvs) k = if p.1 = k then some p.2 else kget kvs k := by
  unfold kget
  rw [List.find?_cons]
  by_cases h : p.1 = k
  · rw [if_pos h]; simp [h]
  · rw [if_neg h]; simp [h]
theorem kget_any : ∀ (kvs : List (κ × α)) (k : κ), (kvs.any fun kv => decide (kv.1 = k)) = (kget kvs k).isSome
  | [], k => rfl
  | p :: r, k => by
    rw [List.any_cons, kget_any r k, kget_cons]
    by_cases hp : p.1 = k
    · rw [if_pos hp, decide_eq_true hp]; rfl
    · rw [if_neg hp, decide_eq_false hp]; rfl
theorem kget_map (k : κ) (v : α) (k' : κ) : ∀ kvs : List (κ × α), kget (kvs.map fun kv => if kv.1 = k then (kv.1, v) else kv) k' = if k = k' ∧ (kget kvs k').isSome = true then some v else kget kvs k'
  | [] => by simp
  | p :: r => by
    rw [List.map_cons, kget_cons, kget_cons, kget_map k v k' r]
    by_cases hp : p.1 = k
    · rw [if_pos hp]
      dsimp only
      by_cases hk : k = k'
      · rw [if_pos (hp.trans hk), if_pos (hp.trans hk), if_pos ⟨hk, rfl⟩]
      · rw [if_neg (fun z => hk (hp.symm.trans z)), if_neg (fun z => hk (hp.symm.trans z)), if_neg (fun z => hk z.1)]
    · rw [if_neg hp]
      by_cases hk : p.1 = k'
      · rw [if_pos hk, if_pos hk, if_neg (fun z => hp (hk.trans z.1.symm))]
      · rw [if_neg hk, if_neg hk]
theorem kget_snoc (k : κ) (v : α) (k' : κ) : ∀ kvs : List (κ × α), kget (kvs ++ [(k, v)]) k' = if (kget kvs k').isSome = true then kget kvs k' else if k = k' then some v else none
  | [] => by rw [List.nil_append, kget_cons]; simp
  | p :: r => by
    rw [List.cons_append, kget_cons, kget_cons, kget_snoc k v k' r]
    by_cases hp : p.1 = k'
    · rw [if_pos hp, if_pos hp]; rfl
    · rw [if_neg hp, if_neg hp]
theorem kget_kput (kvs : List (κ × α)) (k k' : κ) (v : α) : kget (kput kvs k v) k' = if k = k' then some v else kget kvs k' := by
  unfold kput
  rw [kget_any]
  by_cases hs : (kget kvs k).isSome = true
  · rw [if_pos hs, kget_map]
    by_cases hk : k = k'
    · subst hk; rw [if_pos ⟨rfl, hs⟩, if_pos rfl]
    · rw [if_neg (fun z => hk z.1), if_neg hk]
  · rw [if_neg hs, kget_snoc]
    by_cases hk : k = k'
    · subst hk; rw [if_neg hs, if_pos rfl, if_pos rfl]
    · rw [if_neg hk, if_neg hk]
      by_cases h2 : (kget kvs k').isSome = true
      · rw [if_pos h2]
      · rw [if_neg h2]
        cases e : kget kvs k' with
        | none => rfl
        | some v => rw [e] at h2; exact absurd rfl h2
theorem kget_kdrop (k k' : κ) : ∀ kvs : List (κ × α), kget (kdrop kvs k) k' = if k = k' then none else kget kvs k'
  | [] => by simp [kdrop]
  | p :: r => by
    have ih := kget_kdrop k k' r
    unfold kdrop at ih ⊢
    rw [List.filter_cons]
    by_cases hp : p.1 = k
    · rw [if_neg (by simpa using hp), ih, kget_cons]
      by_cases hk : k = k'
      · rw [if_pos hk, if_pos hk]
      · rw [if_neg hk, if_neg hk, if_neg (fun z => hk (hp.symm.trans z))]
    · rw [if_pos (by simpa using hp), kget_cons, kget_cons, ih]
      by_cases hk : k = k'
      · subst hk; rw [if_neg hp, if_pos rfl, if_pos rfl]
      · rw [if_neg hk, if_neg hk]
end
section
variable {h : Hm} {s z : Str} {i k : Int}
@[simp] theorem len_str (c : s.length ≤ 1000000) : biD .len [.str s] h = some (.ok (.int s.length), h) := if_pos c
@[simp] theorem b_addS {t : Str} (c : s.length + t.length ≤ 1000000) : binD .add (.str s) (.str t) h = some (.ok (.str (s ++ t)), h) := if_pos c
@[simp] theorem b_mulS (c : s.length = 1 ∧ 2 ≤ k ∧ k ≤ 10000) : binD .mul (.str s) (.int k) h = some (.ok (.str (repS s k)), h) := if_pos c
@[simp] theorem slc_str {lo hi : Option Int} (c : z.length ≤ 1000000) : slcD (.str z) lo hi h = some (.ok (.str (cutT z lo hi)), h) := if_pos c
theorem idx_str (c : z.length ≤ 1000000) {x : Nat} (e : atD z.cps.toList i = some x) : idxD (.str z) (.int i) h = some (.str ⟨#[x]⟩) := by
  show (if z.length ≤ 1000000 then (atD z.cps.toList i).map _ else none) = _
  rw [if_pos c, e]; rfl
@[simp] theorem bi_str (c : -(2 ^ 250) < i ∧ i < 2 ^ 250) : biD .str [.int i] h = some (.ok (.str (Str.ofString (toString i))), h) := if_pos c
theorem bi_intS {n : Int} (c : s.length ≤ 640) (e : intText? s = some n) : biD .int [.str s] h = some (.ok (.int n), h) := by
  simp only [biD, e]
  exact if_pos c
@[simp] theorem walk_str : walk .seq [.str z] h = some (z.cps.toList.map fun c => .str ⟨#[c]⟩, []) := id rfl
@[simp] theorem find_str {y : Str} : bmD .find (.str z) [.str y] h = some (.ok (.int (PySem.Txt.find z y)), h) := id rfl
@[simp] theorem rcv_find : rcv .find (.str z) h = true := id rfl
end
def repO (o : Option O) (k : Int) (h : Hm) : Res D := match o with
  | some (.lst xs) => if rng62 k ∧ xs.length * k.toNat ≤ 1000000 then some (.ok (.ref h.next), h.new (.lst (List.replicate k.toNat xs).flatten)) else none
  | _ => none
@[simp] theorem repO_l {xs : List D} {k : Int} {h : Hm} (c : (-(2 ^ 62) ≤ k ∧ k < 2 ^ 62) ∧ xs.length * k.toNat ≤ 1000000) : repO (some (.lst xs)) k h = some (.ok (.ref h.next), h.new (.lst (List.replicate k.toNat xs).flatten)) := if_pos c
@[simp] theorem rep_ref {a : Nat} {k : Int} {h : Hm} : binD .mul (.ref a) (.int k) h = repO (h.get a) k h := by
  cases e : h.get a with
  | none => simp only [binD, e]; rfl
  | some o => cases o <;> (simp only [binD, e]; rfl)
theorem ex_for_eq {P : Prog} {cl : Cl} {g : Tg} {k : ItK} {es : Es} {body : S} {env : Env} {h h1 : Hm} {vs items : List D} {gd : List (Nat × O)} (he : evs P cl es env h = some (.ok vs, h1)) (hw : walk k vs h1 = some (items, gd)) :
    ex P cl (.for_ g k es body) env h = forL (fun e1 h2 => ex P cl body e1 h2) g gd items env h1 := by rw [ex_for, he, toSI_ok, hw, walkI_some]
@[simp] theorem rcv_join {z : Str} {h : Hm} : rcv .join (.str z) h = true := id rfl
@[simp] theorem rcv_split {z : Str} {h : Hm} : rcv .split (.str z) h = true := id rfl
@[simp] theorem rcv_part {z : Str} {h : Hm} : rcv .partition (.str z) h = true := id rfl
theorem bm_split {z y : Str} {h : Hm} (c : (y.length == 0) = false ∧ z.length ≤ 1000000) : bmD .split (.str z) [.str y] h = some (.ok (.ref h.next), h.new (.lst ((PySem.Txt.split z y).map .str))) := if_pos c
@[simp] theorem isTn_sb : isTn "str" .bool = false := by decide
@[simp] theorem isTn_si : isTn "str" .int = false := by decide
@[simp] theorem isTn_is : isTn "int" .str = false := by decide
theorem join_le (y : Str) (ps : List Str) : (Txt.join y ps).length ≤ (ps.map (·.length)).sum + ps.length * y.length := by
  cases ps with
  | nil => exact Nat.zero_le _
  | cons a l =>
    have key : ∀ (l : List Str) (acc : Array Nat), (List.foldl (fun acc (p : Str) => acc ++ y.cps ++ p.cps) acc l).size = acc.size + (l.map (·.length)).sum + l.length * y.length := by
      intro l
      induction l with
      | nil => intro acc; simp
      | cons p r ih =>
        intro acc
        rw [List.foldl_cons, ih, Array.size_append, Array.size_append, List.map_cons, List.sum_cons, List.length_cons, Nat.succ_mul]
        show acc.size + y.length + p.length + _ + _ = _
        omega
    have := key l a.cps
    show (List.foldl (fun acc (p : Str) => acc ++ y.cps ++ p.cps) a.cps l).size ≤ _
    rw [this, List.map_cons, List.sum_cons, List.length_cons, Nat.succ_mul]
    show a.length + _ + _ ≤ _
    omega
end Z

set_option maxRecDepth 100000
set_option maxHeartbeats 2000000
namespace Z
open PySem
set_option checkBinderAnnotations false
section
variable {P : Prog} {cl : Cl} {env : Env} {h : Hm} {β : Type} {a : Nat} {kvs : List (L2.Key × D)} {kts : List (List L2.Key × D)} {xs : List D}
def lckG (m : Option O) [f : O → O → Option β] : RF f (Option β) := match m with
  | some o => (match lckO o with
    | some o' => f o o'
    | none => none)
  | none => none
def lckI (m : Option (Option D)) (h : Hm) [f : Nat → O → O → Option β] : RF f (Option β) := match m with
  | some (some (.ref a)) => @lckG β (h.get a) (f a)
  | _ => none
@[simp] theorem lckI_ref (f : Nat → O → O → Option β) : @lckI β (some (some (.ref a))) h f = @lckG β (h.get a) (f a) := id rfl
@[simp] theorem lckG_d (f : O → O → Option β) : @lckG β (some (.dic kvs)) f = f (.dic kvs) (.fzd kvs) := id rfl
@[simp] theorem lckG_t (f : O → O → Option β) : @lckG β (some (.dit kts)) f = f (.dit kts) (.fzt kts) := id rfl
@[simp] theorem frzO_d : frzO (some (.fzd kvs)) = true := id rfl
@[simp] theorem frzO_t : frzO (some (.fzt kts)) = true := id rfl
@[simp] theorem ev_lck (i : Nat) (e : E) : ev P cl (.lck i e) env h = @lckI _ env[i]? h fun a o o' => @bndNI _ _ (ev P cl e env (h.put a o')) fun x h2 => if frzO (h2.get a) = true then ok x (h2.put a o) else none := by
  rw [ev]; unfold lckI lckG bndNI
  cases env[i]? with
  | none => rfl
  | some m =>
    cases m with
    | none => rfl
    | some d => cases d <;> rfl
def lckS (m : Out) (a : Nat) (o : O) : Out := match m with
  | some (.nx, env2, h2) => if frzO (h2.get a) = true then some (.nx, env2, h2.put a o) else none
  | some (.rt d, env2, h2) => if frzO (h2.get a) = true then some (.rt d, env2, h2.put a o) else none
  | _ => none
@[simp] theorem lckS_nx {h2 : Hm} {env2 : Env} {o : O} (c : frzO (h2.get a) = true) : lckS (some (.nx, env2, h2)) a o = some (.nx, env2, h2.put a o) := if_pos c
@[simp] theorem lckS_rt {h2 : Hm} {env2 : Env} {o : O} {d : D} (c : frzO (h2.get a) = true) : lckS (some (.rt d, env2, h2)) a o = some (.rt d, env2, h2.put a o) := if_pos c
@[simp] theorem ex_lck (i : Nat) (s : S) : ex P cl (.lck i s) env h = @lckI _ env[i]? h fun a o o' => lckS (ex P cl s env (h.put a o')) a o := by
  have key : ∀ m : Option (Option D), (match m with
    | some (some (.ref a)) => (match h.get a with
      | some o => (match lckO o with
        | some o' => lckS (ex P cl s env (h.put a o')) a o
        | none => none)
      | none => none)
    | _ => none) = @lckI _ m h fun a o o' => lckS (ex P cl s env (h.put a o')) a o := fun m => by
    cases m with
    | none => rfl
    | some m => cases m with
      | none => rfl
      | some d => cases d <;> rfl
  rw [← key, ex]
  cases env[i]? with
  | none => rfl
  | some m =>
    cases m with
    | none => rfl
    | some d =>
      cases d with
      | ref a =>
        cases h.get a with
        | none => rfl
        | some o =>
          dsimp only
          cases lckO o with
          | none => rfl
          | some o' =>
            try dsimp only
            unfold lckS
            cases ex P cl s env (h.put a o') with
            | none => rfl
            | some r =>
              obtain ⟨fl, _, _⟩ := r
              cases fl <;> rfl
      | _ => rfl
@[simp] theorem ev_rsl (e : E) : ev P cl (.rsl e) env h = @bndI _ _ (ev P cl e env h) fun x h1 => @someI _ _ (lstOf x h1) fun xs => ok (.ref h1.next) (h1.new (.lst xs.reverse)) := by
  rw [ev]
  refine congrArg (bnd _) (funext fun x => funext fun h1 => ?_)
  cases lstOf x h1 <;> rfl
@[simp] theorem ev_dictT : ev P cl .dictT env h = ok (.ref h.next) (h.new (.dit [])) := by rw [ev]
@[simp] theorem ev_dgtT (e : E) (es : Es) : ev P cl (.dgtT e es) env h = @bndI _ _ (ev P cl e env h) fun x h1 => @bndI _ _ (evs P cl es env h1) fun ks h2 => (match x with
    | .ref p => if ks.length ≤ 1000000 then dgtO (dgetT h2 p ks) h2 else none
    | _ => none) := by rw [ev] <;> rfl
def gotO (m : Option (Option D)) (d : D) (h : Hm) : Res D := match m with
  | some (some v) => ok v h
  | some none => ok d h
  | none => none
@[simp] theorem gotO_s (m : Option D) (d : D) : gotO (some m) d h = some (.ok (m.getD d), h) := by cases m <;> rfl
def isTO (o : Option O) : Bool := match o with
  | some (.dit _) => true
  | some (.fzt _) => true
  | _ => false
@[simp] theorem isTO_d : isTO (some (.dit kts)) = true := id rfl
@[simp] theorem isTO_z : isTO (some (.fzt kts)) = true := id rfl
@[simp] theorem ev_getT (e : E) (es : Es) (d : Cst) : ev P cl (.getT e es d) env h = @bndI _ _ (ev P cl e env h) fun x h1 => (match x with
    | .ref p => if isTO (h1.get p) = true then @bndI _ _ (evs P cl es env h1) fun ks h2 => if ks.length ≤ 1000000 then gotO (dgetT h2 p ks) d.d h2 else none else none
    | _ => none) := by
  rw [ev]
  refine congrArg (bnd _) (funext fun x => funext fun h1 => ?_)
  cases x with
  | ref p =>
    dsimp only [dgetT]
    cases h1.get p with
    | none => rfl
    | some o => cases o <;> rfl
  | _ => rfl
def dtO (o : Option O) (ks : List D) : Option (Option D) := match o with
  | some (.dit kvs) => (keys? ks).map fun q => kget kvs q
  | some (.fzt kvs) => (keys? ks).map fun q => kget kvs q
  | _ => none
@[simp] theorem dtO_d (ks : List D) : dtO (some (.dit kts)) ks = (keys? ks).map fun q => kget kts q := id rfl
@[simp] theorem dtO_z (ks : List D) : dtO (some (.fzt kts)) ks = (keys? ks).map fun q => kget kts q := id rfl
@[simp] theorem dgetT_eq (ks : List D) : dgetT h a ks = dtO (h.get a) ks := by
  unfold dgetT dtO
  cases h.get a with
  | none => rfl
  | some o => cases o <;> rfl
@[simp] theorem keys_nil : keys? [] = some [] := id rfl
@[simp] theorem keys_ii (i j : Int) : keys? [.int i, .int j] = some [.inl i, .inl j] := id rfl
def dptO (o : Option O) (h : Hm) (a : Nat) (ks : List D) (v : D) : Option Hm := match o with
  | some (.dit kvs) => if kvs.length < 1000000 then (keys? ks).map fun q => h.put a (.dit (kput kvs q v)) else none
  | _ => none
@[simp] theorem dptO_d (ks : List D) (v : D) (c : kts.length < 1000000) : dptO (some (.dit kts)) h a ks v = (keys? ks).map fun q => h.put a (.dit (kput kts q v)) := if_pos c
@[simp] theorem dputT_eq (ks : List D) (v : D) : dputT h a ks v = dptO (h.get a) h a ks v := by
  unfold dputT dptO
  cases h.get a with
  | none => rfl
  | some o => cases o <;> rfl
@[simp] theorem ex_dputT (o : E) (es : Es) (e : E) : ex P cl (.dputT o es e) env h = @toSI _ (ev P cl e env h) env fun x h1 => @toSI _ (ev P cl o env h1) env fun y h2 => @toSI _ (evs P cl es env h2) env fun ks h3 => (match y with
    | .ref p => if ks.length ≤ 1000000 then @someI _ _ (dputT h3 p ks x) fun h4 => nxt env h4 else none
    | _ => none) := by
  rw [ex]
  refine congrArg (toS _ _) (funext fun x => funext fun h1 => ?_)
  refine congrArg (toS _ _) (funext fun y => funext fun h2 => ?_)
  refine congrArg (toS _ _) (funext fun ks => funext fun h3 => ?_)
  cases y with
  | ref p =>
    show (if ks.length ≤ lim then _ else none) = if ks.length ≤ lim then _ else none
    cases dputT h3 p ks x <;> rfl
  | _ => rfl
@[simp] theorem ev_new0 (c : String) : ev P cl (.new0 c) env h = ok (.ref h.next) (h.new (.ins c [])) := by rw [ev]
@[simp] theorem ev_isc (e : E) (c : String) : ev P cl (.isc e c) env h = @bndI _ _ (ev P cl e env h) fun x h1 => (match x with
    | .ref p => @insB _ (h1.get p) fun c1 _ => liftO ((P.sub c1 c).map .bl) h1
    | _ => none) := by rw [ev] <;> rfl
def wkO (o : Option O) : Option (List D × List (Nat × O)) := match o with
  | some (.fzd kvs) => some (kvs.map fun kv => keyD kv.1, [])
  | some (.fzt kvs) => some (kvs.map fun kv => .tup (kv.1.map keyD), [])
  | _ => none
@[simp] theorem wkO_d : wkO (some (.fzd kvs)) = some (kvs.map fun kv => keyD kv.1, []) := id rfl
@[simp] theorem wkO_t : wkO (some (.fzt kts)) = some (kts.map fun kv => .tup (kv.1.map keyD), []) := id rfl
@[simp] theorem walk_keys : walk .keys [.ref a] h = wkO (h.get a) := by
  cases e : h.get a with
  | none => simp only [walk, e]; rfl
  | some o => cases o <;> (simp only [walk, e]; rfl)
def wiO (o : Option O) : Option (List D × List (Nat × O)) := match o with
  | some (.fzd kvs) => some (kvs.map fun kv => .tup [keyD kv.1, kv.2], [])
  | _ => none
@[simp] theorem wiO_d : wiO (some (.fzd kvs)) = some (kvs.map fun kv => .tup [keyD kv.1, kv.2], []) := id rfl
@[simp] theorem walk_items : walk .items [.ref a] h = wiO (h.get a) := by
  cases e : h.get a with
  | none => simp only [walk, e]; rfl
  | some o => cases o <;> (simp only [walk, e]; rfl)
def wvO (o : Option O) : Option (List D × List (Nat × O)) := match o with
  | some (.fzd kvs) => some (kvs.map fun kv => kv.2, [])
  | _ => none
@[simp] theorem wvO_d : wvO (some (.fzd kvs)) = some (kvs.map fun kv => kv.2, []) := id rfl
@[simp] theorem walk_vals : walk .vals [.ref a] h = wvO (h.get a) := by
  cases e : h.get a with
  | none => simp only [walk, e]; rfl
  | some o => cases o <;> (simp only [walk, e]; rfl)
@[simp] theorem inRO_z (x : D) : inRO x (some (.fzd kvs)) = ((key? x).map fun q => kget kvs q).map Option.isSome := id rfl
@[simp] theorem keyD_l (i : Int) : keyD (.inl i) = .int i := id rfl
@[simp] theorem keyD_r (i : Str) : keyD (.inr i) = .str i := id rfl
end
def S.bd : S → S
  | .for_ _ _ _ b => b
  | .wh _ b => b
  | .lck _ (.for_ _ _ _ b) => b
  | s => s
def dicO (o : Option O) (h : Hm) : Res D := match o with
  | some (.dic kvs) => ok (.ref h.next) (h.new (.dic kvs))
  | _ => none
@[simp] theorem dicO_d {kvs : List (L2.Key × D)} {h : Hm} : dicO (some (.dic kvs)) h = some (.ok (.ref h.next), h.new (.dic kvs)) := id rfl
@[simp] theorem bi_dict {a : Nat} {h : Hm} : biD .dict [.ref a] h = dicO (h.get a) h := by
  cases e : h.get a with
  | none => simp only [biD, e]; rfl
  | some o => cases o <;> (simp only [biD, e]; rfl)
@[simp] theorem in_tupT (is own : List Nat) : Tg.in_ (.tup is) own = is.all own.contains := id rfl
section
variable {P : Prog} {cl : Cl} {env : Env} {h : Hm}
@[simp] theorem ex_par (i j : Nat) (es : Es) : ex P cl (.par i j es) env h = @toSI _ (evs P cl es env h) env fun vs h1 => (match vs with
    | [x, y] => nxt ((env.set i (some x)).set j (some y)) h1
    | _ => none) := by rw [ex]; rfl
def walkZ (o o' : Option O) (a b : Nat) : Option (List D × List (Nat × O)) := match o, o' with
  | some (.lst xs), some (.lst ys) => some ((xs.zip ys).map fun p => .tup [p.1, p.2], [(a, .lst xs), (b, .lst ys)])
  | _, _ => none
@[simp] theorem walkZ_l {xs ys : List D} {a b : Nat} : walkZ (some (.lst xs)) (some (.lst ys)) a b = some ((xs.zip ys).map fun p => .tup [p.1, p.2], [(a, .lst xs), (b, .lst ys)]) := id rfl
@[simp] theorem walk_zip {a b : Nat} : walk .zip [.ref a, .ref b] h = walkZ (h.get a) (h.get b) a b := by
  cases e : h.get a with
  | none => simp only [walk, e]; rfl
  | some o =>
    cases e2 : h.get b with
    | none => simp only [walk, e, e2]; cases o <;> rfl
    | some o2 => simp only [walk, e, e2]; cases o <;> cases o2 <;> rfl
end
def prD (q : Int × Int) : D := .tup [.int q.1, .int q.2]
def prP (q : Int × Int) : PyData := .tuple [.int q.1, .int q.2]
section
variable {P : Prog} {cl : Cl} {env : Env} {h : Hm}
@[simp] theorem ev_isx (i : Nat) (c : String) : ev P cl (.isx i c) env h = (match env[i]? with
    | some (some (.exc k a)) => if P.xk = some (k, a) then liftO ((P.exs k c).map .bl) h else none
    | _ => none) := by rw [ev] <;> rfl
@[simp] theorem ev_isxB (i : Nat) (c : String) : ev P cl (.isxB i c) env h = (match env[i]? with
    | some (some (.exc k a)) => if P.xk = some (k, a) then liftO ((P.exb k c).map .bl) h else none
    | _ => none) := by rw [ev] <;> rfl
end
end Z

namespace Z
open L2 PySem PySem.Spec PyProof.Rows
def nestT (b : S) : List (String × S) → S
  | [] => b
  | p :: r => nestT (.try_ b p.1 none p.2) r
abbrev hdT (K : PySem.W.Frag) (c : RC) (p : String × S) : Value × (Addr → Value → Option Addr → TS) := (.ref (ca K p.1), fun _ _ _ => rdS (c.with noW) p.2)
def walkE (o : Option O) (a : Nat) : Option (List D × List (Nat × O)) := match o with
  | some (.lst xs) => some (xs.zipIdx.map fun p => .tup [.int (p.2 : Nat), p.1], [(a, .lst xs)])
  | _ => none
@[simp] theorem walkE_l {xs : List D} {a : Nat} : walkE (some (.lst xs)) a = some (xs.zipIdx.map fun p => .tup [.int (p.2 : Nat), p.1], [(a, .lst xs)]) := id rfl
theorem bi_lset {a : Nat} {ns : List Int} {h : Hm} (e : h.get a = some (.lst (ns.map D.int))) (nd : ns.Nodup) (hl : ns.length ≤ 4000) : biD .lset [.ref a] h = some (.ok (.int (ns.length : Nat)), h) := by
  have e2 : ints? (ns.map D.int) = some ns := by
    clear e nd hl
    induction ns with
    | nil => rfl
    | cons n ns ih => simp only [List.map_cons, ints?, ih, Option.map_some]
  simp only [biD, lstOf, e, e2, nd, hl, and_self, if_true]
  rfl
section
variable {P : Prog} {cl : Cl} {env : Env} {h : Hm}
def fmtO (x : D) (h : Hm) : Res D := match x with
  | .str y => if y.length ≤ lim then ok (.str y) h else none
  | .int i => if big i then ok (.str (Str.ofString (toString i))) h else none
  | _ => none
@[simp] theorem fmtO_s {y : Str} (c : y.length ≤ 1000000) : fmtO (.str y) h = some (.ok (.str y), h) := if_pos c
theorem fmtO_i {i : Int} (c : -(2 ^ 250) < i ∧ i < 2 ^ 250) : fmtO (.int i) h = some (.ok (.str (Str.ofString (toString i))), h) := if_pos c
@[simp] theorem ev_fmt (a : E) : ev P cl (.fmt a) env h = @bndI _ _ (ev P cl a env h) fun x h1 => fmtO x h1 := by rw [ev]; rfl
@[simp] theorem ev_fst (es : Es) : ev P cl (.fst es) env h = evJ P cl es Str.empty env h := by rw [ev]
set_option checkBinderAnnotations false in
def joinI (x : D) (acc : Str) [k : Str → Res D] : RF k (Res D) := match x with
  | .str y => if (acc ++ y).length ≤ lim then k (acc ++ y) else none
  | _ => none
@[simp] theorem joinI_s {acc y : Str} (k : Str → Res D) (c : (acc ++ y).length ≤ 1000000) : @joinI (.str y) acc k = k (acc ++ y) := if_pos c
@[simp] theorem evJ_nil (acc : Str) : evJ P cl .nil acc env h = some (.ok (.str acc), h) := by rw [evJ]; rfl
@[simp] theorem evJ_cons (e : E) (es : Es) (acc : Str) : evJ P cl (.cons e es) acc env h = @bndI _ _ (ev P cl e env h) fun x h1 => @joinI x acc fun z => evJ P cl es z env h1 := by
  rw [evJ]
  unfold bndI
  refine congrArg _ (funext fun x => funext fun h1 => ?_)
  cases x <;> rfl
@[simp] theorem ev_lrg (a : E) : ev P cl (.lrg a) env h = @bndI _ _ (ev P cl a env h) fun x h1 => (match x with
    | .int n => if 0 ≤ n ∧ n ≤ 1000000 then ok (.ref h1.next) (h1.new (.lst ((List.range n.toNat).map fun (i : Nat) => .int (i : Int)))) else none
    | _ => none) := by rw [ev] <;> rfl
@[simp] theorem ev_iso (a : E) (c : String) : ev P cl (.iso a c) env h = @bndI _ _ (ev P cl a env h) fun x h1 => (match x with
    | .xob k => liftO ((P.exs k c).map .bl) h1
    | _ => none) := by rw [ev] <;> rfl
@[simp] theorem ev_isoB (a : E) (c : String) : ev P cl (.isoB a c) env h = @bndI _ _ (ev P cl a env h) fun x h1 => (match x with
    | .xob k => liftO ((P.exb k c).map .bl) h1
    | _ => none) := by rw [ev] <;> rfl
def augO (op : Bop) (x v : D) (o : Option O) (k : Nat) (h3 : Hm) (p : Nat) (env : Env) : Out := match augD op x v, o with
  | some w, some (.lst ys) => if k < ys.length then nxt env (h3.put p (.lst (ys.set k w))) else none
  | _, _ => none
@[simp] theorem augO_add (i j : Int) (ys : List D) (k : Nat) (h3 : Hm) (p : Nat) (env : Env) : augO .add (.int i) (.int j) (some (.lst ys)) k h3 p env = if k < ys.length then nxt env (h3.put p (.lst (ys.set k (.int (i + j))))) else none := id rfl
@[simp] theorem augO_sub (i j : Int) (ys : List D) (k : Nat) (h3 : Hm) (p : Nat) (env : Env) : augO .sub (.int i) (.int j) (some (.lst ys)) k h3 p env = if k < ys.length then nxt env (h3.put p (.lst (ys.set k (.int (i - j))))) else none := id rfl
@[simp] theorem ex_augi (o i : E) (op : Bop) (e : E) : ex P cl (.augi o i op e) env h = @toSI _ (ev P cl o env h) env fun y h1 => @toSI _ (ev P cl i env h1) env fun z h2 => (match y, z with
    | .ref p, .int k => @lstI _ (h2.get p) fun xs => if 0 ≤ k then @someI _ _ (xs[k.toNat]?) fun x => @toSI _ (ev P cl e env h2) env fun v h3 => augO op x v (h3.get p) k.toNat h3 p env else none
    | _, _ => none) := by
  rw [ex]
  unfold toSI
  refine congrArg _ (funext fun y => funext fun h1 => congrArg _ (funext fun z => funext fun h2 => ?_))
  cases y <;> try rfl
  cases z <;> try rfl
  rename_i p k
  simp only [lstI, someI]
  cases h2.get p with
  | none => rfl
  | some ob =>
    cases ob <;> try rfl
    rename_i xs
    by_cases hk : 0 ≤ k
    · simp only [if_pos hk]
      cases xs[k.toNat]? with
      | none => rfl
      | some x =>
        refine congrArg (toS (ev P cl e env h2) env) (funext fun v => funext fun h3 => ?_)
        unfold augO
        cases augD op x v with
        | none => rfl
        | some w =>
          cases h3.get p with
          | none => rfl
          | some o2 => cases o2 <;> rfl
    · simp only [if_neg hk]
@[simp] theorem walk_enum {a : Nat} : walk .enum [.ref a] h = walkE (h.get a) a := by
  cases e : h.get a with
  | none => simp only [walk, e]; rfl
  | some o => simp only [walk, e]; cases o <;> rfl
end
end Z

set_option maxRecDepth 100000
set_option maxHeartbeats 2000000
namespace L2
open PySem PySem.Spec PyProof.Rows

section
variable {X : Cx} {pins : List (Addr × Obj)} {σ : St} {H : Hp} {s s' : Shared}

end

section
variable {X : Cx}
end
end L2

set_option maxRecDepth 100000
set_option maxHeartbeats 0
namespace Z
namespace K32
open PySem PySem.Spec PyProof.Rows L2
def top (i : Nat) : Stmt := PySem.Challenge.pw_meterhouse_k32_jumps.main.body.getD i (.Pass ⟨0, 0, 0, 0⟩)
def F_Deed_do : Fn := ⟨2, 2,
  .ret (.con .non)⟩
def F_Deed_undo : Fn := ⟨2, 2,
  .ret (.con .non)⟩
def F_Deed_told : Fn := ⟨1, 1,
  .ret (.tup (.cons (.con (.str "deed")) (.nil)))⟩
def F_Save_init : Fn := ⟨5, 5,
  .seq (.sfld (.var 0) "slot" (.var 1)) (.seq (.sfld (.var 0) "spot" (.var 2)) (.seq (.sfld (.var 0) "old" (.var 3)) (.sfld (.var 0) "new" (.var 4))))⟩
def F_Save_do : Fn := ⟨2, 2,
  .drop (.meth (.idx (.var 1) (.att (.var 0) "slot")) "keep" (.cons (.att (.var 0) "spot") (.cons (.att (.var 0) "new") (.nil))) [])⟩
def F_Save_undo : Fn := ⟨2, 2,
  .drop (.meth (.idx (.var 1) (.att (.var 0) "slot")) "keep" (.cons (.att (.var 0) "spot") (.cons (.att (.var 0) "old") (.nil))) [])⟩
def F_Save_told : Fn := ⟨1, 1,
  .ret (.tup (.cons (.con (.str "save")) (.cons (.att (.var 0) "slot") (.cons (.att (.var 0) "spot") (.cons (.att (.var 0) "old") (.cons (.att (.var 0) "new") (.nil)))))))⟩
def F_carry : Fn := ⟨4, 6,
  .seq (.asg 4 (.idx (.var 0) (.var 1))) (.seq (.sfld (.var 4) "coin" (.bin .sub (.att (.var 4) "coin") (.var 3))) (.seq (.asg 5 (.idx (.var 0) (.var 2))) (.sfld (.var 5) "coin" (.bin .add (.att (.var 5) "coin") (.var 3)))))⟩
def F_Move_init : Fn := ⟨4, 4,
  .seq (.sfld (.var 0) "slot" (.var 1)) (.seq (.sfld (.var 0) "taker" (.var 2)) (.sfld (.var 0) "many" (.var 3)))⟩
def F_Move_do : Fn := ⟨2, 2,
  .drop (.call "carry" (.cons (.var 1) (.cons (.att (.var 0) "slot") (.cons (.att (.var 0) "taker") (.cons (.att (.var 0) "many") (.nil))))) [])⟩
def F_Move_undo : Fn := ⟨2, 2,
  .drop (.call "carry" (.cons (.var 1) (.cons (.att (.var 0) "taker") (.cons (.att (.var 0) "slot") (.cons (.att (.var 0) "many") (.nil))))) [])⟩
def F_Move_told : Fn := ⟨1, 1,
  .ret (.tup (.cons (.con (.str "move")) (.cons (.att (.var 0) "slot") (.cons (.att (.var 0) "taker") (.cons (.att (.var 0) "many") (.nil))))))⟩
def F_Note_init : Fn := ⟨3, 3,
  .seq (.sfld (.var 0) "slot" (.var 1)) (.sfld (.var 0) "number" (.var 2))⟩
def F_Note_told : Fn := ⟨1, 1,
  .ret (.tup (.cons (.con (.str "note")) (.cons (.att (.var 0) "slot") (.cons (.att (.var 0) "number") (.nil)))))⟩
def F_reckons : Fn := ⟨1, 1,
  .ret (.cmp .inn (.var 0) (.slc (.glo "WORDS") (.some (.con (.int 4))) (.some (.con (.int 16)))))⟩
def F_takes : Fn := ⟨1, 2,
  .seq (.asg 1 (.idx (.var 0) (.con (.int 0)))) (.seq (.ite (.or (.cmp .eq (.var 1) (.con (.str "copy"))) (.cmp .eq (.var 1) (.con (.str "swap")))) (.ret (.bin .add (.idx (.var 0) (.con (.int 1))) (.con (.int 1)))) (.skip)) (.seq (.ite (.cmp .inn (.var 1) (.tup (.cons (.con (.str "push")) (.cons (.con (.str "jump")) (.cons (.con (.str "me")) (.cons (.con (.str "from")) (.cons (.con (.str "sent")) (.cons (.con (.str "word")) (.nil))))))))) (.ret (.con (.int 0))) (.skip)) (.seq (.ite (.or (.cmp .eq (.var 1) (.con (.str "save"))) (.tru (.call "reckons" (.cons (.var 1) (.nil)) []))) (.ret (.con (.int 2))) (.skip)) (.seq (.ite (.cmp .eq (.var 1) (.con (.str "call"))) (.ret (.con (.int 4))) (.skip)) (.seq (.ite (.or (.cmp .eq (.var 1) (.con (.str "borrow"))) (.cmp .eq (.var 1) (.con (.str "look")))) (.ret (.con (.int 3))) (.skip)) (.ret (.con (.int 1))))))))⟩
def F_leaves : Fn := ⟨1, 2,
  .seq (.asg 1 (.idx (.var 0) (.con (.int 0)))) (.seq (.ite (.cmp .eq (.var 1) (.con (.str "copy"))) (.ret (.bin .add (.idx (.var 0) (.con (.int 1))) (.con (.int 2)))) (.skip)) (.seq (.ite (.cmp .eq (.var 1) (.con (.str "swap"))) (.ret (.bin .add (.idx (.var 0) (.con (.int 1))) (.con (.int 1)))) (.skip)) (.seq (.ite (.cmp .inn (.var 1) (.tup (.cons (.con (.str "drop")) (.cons (.con (.str "jump")) (.cons (.con (.str "jumpif")) (.cons (.con (.str "save")) (.cons (.con (.str "note")) (.cons (.con (.str "give")) (.cons (.con (.str "fail")) (.nil)))))))))) (.ret (.con (.int 0))) (.skip)) (.seq (.ite (.cmp .inn (.var 1) (.tup (.cons (.con (.str "call")) (.cons (.con (.str "borrow")) (.cons (.con (.str "look")) (.nil)))))) (.ret (.con (.int 2))) (.skip)) (.ret (.con (.int 1)))))))⟩
def F_price : Fn := ⟨2, 3,
  .seq (.asg 2 (.idx (.var 0) (.con (.int 0)))) (.seq (.ite (.cmp .eq (.var 2) (.con (.str "save"))) (.ret (.ife (.tru (.var 1)) (.con (.int 12)) (.con (.int 5)))) (.skip)) (.seq (.ite (.cmp .eq (.var 2) (.con (.str "call"))) (.ret (.ife (.tru (.var 1)) (.con (.int 12)) (.con (.int 8)))) (.skip)) (.seq (.ite (.or (.cmp .eq (.var 2) (.con (.str "borrow"))) (.cmp .eq (.var 2) (.con (.str "look")))) (.ret (.con (.int 6))) (.skip)) (.seq (.ite (.cmp .eq (.var 2) (.con (.str "note"))) (.ret (.con (.int 4))) (.skip)) (.seq (.ite (.or (.cmp .eq (.var 2) (.con (.str "load"))) (.cmp .eq (.var 2) (.con (.str "coin")))) (.ret (.con (.int 3))) (.skip)) (.seq (.ite (.cmp .inn (.var 2) (.tup (.cons (.con (.str "times")) (.cons (.con (.str "over")) (.cons (.con (.str "rest")) (.nil)))))) (.ret (.con (.int 2))) (.skip)) (.ret (.con (.int 1)))))))))⟩
def F_shared : Fn := ⟨3, 4,
  .seq (.ite (.cmp .eq (.var 2) (.con (.int 0))) (.ret (.con (.int 0))) (.skip)) (.seq (.asg 3 (.bi .divmod (.cons (.var 1) (.cons (.var 2) (.nil))))) (.seq (.ite (.cmp .eq (.var 0) (.con (.str "over"))) (.ret (.idx (.var 3) (.con (.int 0)))) (.skip)) (.ret (.idx (.var 3) (.con (.int 1))))))⟩
def F_moved : Fn := ⟨3, 3,
  .seq (.ite (.cmp .ge (.var 2) (.con (.int 64))) (.ret (.con (.int 0))) (.skip)) (.seq (.ite (.cmp .eq (.var 0) (.con (.str "up"))) (.ret (.bin .mod (.bin .shl (.var 1) (.var 2)) (.glo "WIDE"))) (.skip)) (.ret (.bin .shr (.var 1) (.var 2))))⟩
def F_reckon : Fn := ⟨3, 3,
  .seq (.ite (.cmp .eq (.var 0) (.con (.str "add"))) (.ret (.bin .mod (.bin .add (.var 1) (.var 2)) (.glo "WIDE"))) (.skip)) (.seq (.ite (.cmp .eq (.var 0) (.con (.str "minus"))) (.ret (.bin .mod (.bin .sub (.var 1) (.var 2)) (.glo "WIDE"))) (.skip)) (.seq (.ite (.cmp .eq (.var 0) (.con (.str "times"))) (.ret (.bin .mod (.bin .mul (.var 1) (.var 2)) (.glo "WIDE"))) (.skip)) (.seq (.ite (.or (.cmp .eq (.var 0) (.con (.str "over"))) (.cmp .eq (.var 0) (.con (.str "rest")))) (.ret (.call "shared" (.cons (.var 0) (.cons (.var 1) (.cons (.var 2) (.nil)))) [])) (.skip)) (.seq (.ite (.cmp .eq (.var 0) (.con (.str "below"))) (.ret (.bi .int (.cons (.cmp .lt (.var 1) (.var 2)) (.nil)))) (.skip)) (.seq (.ite (.cmp .eq (.var 0) (.con (.str "same"))) (.ret (.bi .int (.cons (.cmp .eq (.var 1) (.var 2)) (.nil)))) (.skip)) (.seq (.ite (.cmp .eq (.var 0) (.con (.str "both"))) (.ret (.bin .band (.var 1) (.var 2))) (.skip)) (.seq (.ite (.cmp .eq (.var 0) (.con (.str "either"))) (.ret (.bin .bor (.var 1) (.var 2))) (.skip)) (.seq (.ite (.cmp .eq (.var 0) (.con (.str "unlike"))) (.ret (.bin .bxor (.var 1) (.var 2))) (.skip)) (.ret (.call "moved" (.cons (.var 0) (.cons (.var 1) (.cons (.var 2) (.nil)))) []))))))))))⟩
def F_Frame_init : Fn := ⟨7, 7,
  .seq (.sfld (.var 0) "kind" (.var 1)) (.seq (.sfld (.var 0) "who" (.var 2)) (.seq (.sfld (.var 0) "whose" (.var 3)) (.seq (.sfld (.var 0) "caller" (.var 4)) (.seq (.sfld (.var 0) "coin" (.var 5)) (.seq (.sfld (.var 0) "word" (.var 6)) (.seq (.sfld (.var 0) "given" (.con (.int 0))) (.seq (.sfld (.var 0) "depth" (.con (.int 1))) (.seq (.sfld (.var 0) "still" (.cmp .eq (.var 1) (.con (.str "look")))) (.seq (.sfld (.var 0) "stack" (.lst (.nil))) (.seq (.sfld (.var 0) "at" (.con (.int 0))) (.seq (.sfld (.var 0) "used" (.con (.int 0))) (.seq (.sfld (.var 0) "steps" (.lst (.nil))) (.seq (.sfld (.var 0) "end" (.con (.str ""))) (.sfld (.var 0) "answer" (.con (.int 0))))))))))))))))⟩
def F_Frame_finish : Fn := ⟨3, 3,
  .seq (.sfld (.var 0) "end" (.var 1)) (.sfld (.var 0) "answer" (.var 2))⟩
def F_Frame_is_short : Fn := ⟨2, 2,
  .ret (.cmp .lt (.bi .len (.cons (.att (.var 0) "stack") (.nil))) (.call "takes" (.cons (.var 1) (.nil)) []))⟩
def F_Frame_is_full : Fn := ⟨2, 2,
  .ret (.cmp .gt (.bin .add (.bin .sub (.bi .len (.cons (.att (.var 0) "stack") (.nil))) (.call "takes" (.cons (.var 1) (.nil)) [])) (.call "leaves" (.cons (.var 1) (.nil)) [])) (.glo "STACK"))⟩
def F_Frame_tree : Fn := ⟨1, 2,
  .seq (.asg 1 (.tup (.cons (.att (.var 0) "kind") (.cons (.att (.var 0) "who") (.cons (.att (.var 0) "whose") (.cons (.att (.var 0) "caller") (.cons (.att (.var 0) "coin") (.cons (.att (.var 0) "word") (.nil))))))))) (.ret (.bin .add (.var 1) (.tup (.cons (.att (.var 0) "given") (.cons (.att (.var 0) "end") (.cons (.att (.var 0) "answer") (.cons (.att (.var 0) "used") (.cons (.bi .list (.cons (.att (.var 0) "steps") (.nil))) (.nil)))))))))⟩
def F_Frame_place : Fn := ⟨2, 2,
  .seq (.ite (.cmp .eq (.var 1) (.con (.str "me"))) (.ret (.att (.var 0) "who")) (.skip)) (.seq (.ite (.cmp .eq (.var 1) (.con (.str "from"))) (.ret (.att (.var 0) "caller")) (.skip)) (.seq (.ite (.cmp .eq (.var 1) (.con (.str "sent"))) (.ret (.att (.var 0) "coin")) (.skip)) (.ret (.att (.var 0) "word"))))⟩
def F_Frame_move_about : Fn := ⟨2, 5,
  .seq (.asg 2 (.idx (.var 1) (.con (.int 0)))) (.ite (.cmp .eq (.var 2) (.con (.str "push"))) (.drop (.bm .append (.att (.var 0) "stack") (.cons (.idx (.var 1) (.con (.int 1))) (.nil)))) (.ite (.cmp .eq (.var 2) (.con (.str "drop"))) (.drop (.bm .pop (.att (.var 0) "stack") (.nil))) (.ite (.cmp .eq (.var 2) (.con (.str "copy"))) (.drop (.bm .append (.att (.var 0) "stack") (.cons (.idx (.att (.var 0) "stack") (.bin .sub (.neg (.con (.int 1))) (.idx (.var 1) (.con (.int 1))))) (.nil)))) (.seq (.asg 3 (.bin .sub (.bin .sub (.bi .len (.cons (.att (.var 0) "stack") (.nil))) (.con (.int 1))) (.idx (.var 1) (.con (.int 1))))) (.seq (.asg 4 (.bm .pop (.att (.var 0) "stack") (.nil))) (.seq (.drop (.bm .append (.att (.var 0) "stack") (.cons (.idx (.att (.var 0) "stack") (.var 3)) (.nil)))) (.sidx (.att (.var 0) "stack") (.var 3) (.var 4))))))))⟩
def F_Frame_lead : Fn := ⟨2, 3,
  .seq (.asg 2 (.idx (.var 1) (.con (.int 0)))) (.ite (.cmp .eq (.var 2) (.con (.str "jump"))) (.sfld (.var 0) "at" (.idx (.var 1) (.con (.int 1)))) (.ite (.cmp .eq (.var 2) (.con (.str "jumpif"))) (.ite (.cmp .ne (.bm .pop (.att (.var 0) "stack") (.nil)) (.con (.int 0))) (.sfld (.var 0) "at" (.idx (.var 1) (.con (.int 1)))) (.skip)) (.ite (.cmp .eq (.var 2) (.con (.str "give"))) (.drop (.meth (.var 0) "finish" (.cons (.con (.str "well")) (.cons (.bm .pop (.att (.var 0) "stack") (.nil)) (.nil))) [])) (.drop (.meth (.var 0) "finish" (.cons (.con (.str "fail")) (.cons (.bm .pop (.att (.var 0) "stack") (.nil)) (.nil))) [])))))⟩
def F_Frame_plain_row : Fn := ⟨2, 5,
  .seq (.asg 2 (.idx (.var 1) (.con (.int 0)))) (.ite (.cmp .inn (.var 2) (.tup (.cons (.con (.str "push")) (.cons (.con (.str "drop")) (.cons (.con (.str "copy")) (.cons (.con (.str "swap")) (.nil))))))) (.drop (.meth (.var 0) "move_about" (.cons (.var 1) (.nil)) [])) (.ite (.cmp .inn (.var 2) (.tup (.cons (.con (.str "jump")) (.cons (.con (.str "jumpif")) (.cons (.con (.str "give")) (.cons (.con (.str "fail")) (.nil))))))) (.drop (.meth (.var 0) "lead" (.cons (.var 1) (.nil)) [])) (.ite (.cmp .inn (.var 2) (.tup (.cons (.con (.str "me")) (.cons (.con (.str "from")) (.cons (.con (.str "sent")) (.cons (.con (.str "word")) (.nil))))))) (.drop (.bm .append (.att (.var 0) "stack") (.cons (.meth (.var 0) "place" (.cons (.var 2) (.nil)) []) (.nil)))) (.seq (.asg 3 (.bm .pop (.att (.var 0) "stack") (.nil))) (.seq (.asg 4 (.bm .pop (.att (.var 0) "stack") (.nil))) (.drop (.bm .append (.att (.var 0) "stack") (.cons (.call "reckon" (.cons (.var 2) (.cons (.var 4) (.cons (.var 3) (.nil)))) []) (.nil)))))))))⟩
def F_is_change : Fn := ⟨2, 2,
  .seq (.ite (.cmp .eq (.idx (.var 0) (.con (.int 0))) (.con (.str "call"))) (.ret (.cmp .gt (.idx (.var 1) (.neg (.con (.int 3)))) (.con (.int 0)))) (.skip)) (.ret (.cmp .inn (.idx (.var 0) (.con (.int 0))) (.tup (.cons (.con (.str "save")) (.cons (.con (.str "note")) (.nil))))))⟩
def F_Machine_init : Fn := ⟨3, 3,
  .seq (.sfld (.var 0) "rooms" (.var 1)) (.sfld (.var 0) "journal" (.var 2))⟩
def F_Machine_account : Fn := ⟨2, 2,
  .seq (.ite (.cmp .lt (.var 1) (.bi .len (.cons (.att (.var 0) "rooms") (.nil)))) (.ret (.idx (.att (.var 0) "rooms") (.var 1))) (.skip)) (.ret (.con .non))⟩
def F_Machine_record : Fn := ⟨3, 3,
  .seq (.drop (.meth (.att (.var 0) "journal") "write" (.cons (.var 2) (.nil)) [])) (.drop (.bm .append (.att (.var 1) "steps") (.cons (.meth (.var 2) "told" (.nil) []) (.nil))))⟩
def F_Machine_cost : Fn := ⟨3, 5,
  .seq (.asg 3 (.con (.bl false))) (.seq (.ite (.cmp .eq (.idx (.var 2) (.con (.int 0))) (.con (.str "save"))) (.seq (.asg 4 (.meth (.idx (.att (.var 0) "rooms") (.att (.var 1) "who")) "loaded" (.cons (.idx (.att (.var 1) "stack") (.neg (.con (.int 2)))) (.nil)) [])) (.asg 3 (.and (.cmp .eq (.var 4) (.con (.int 0))) (.cmp .ne (.idx (.att (.var 1) "stack") (.neg (.con (.int 1)))) (.con (.int 0)))))) (.ite (.cmp .eq (.idx (.var 2) (.con (.int 0))) (.con (.str "call"))) (.asg 3 (.cmp .gt (.idx (.att (.var 1) "stack") (.neg (.con (.int 3)))) (.con (.int 0)))) (.skip))) (.ret (.call "price" (.cons (.var 2) (.cons (.var 3) (.nil))) [])))⟩
def F_Machine_fault : Fn := ⟨3, 3,
  .seq (.ite (.tru (.meth (.var 1) "is_short" (.cons (.var 2) (.nil)) [])) (.ret (.con (.str "short"))) (.skip)) (.seq (.ite (.tru (.meth (.var 1) "is_full" (.cons (.var 2) (.nil)) [])) (.ret (.con (.str "full"))) (.skip)) (.seq (.ite (.and (.tru (.att (.var 1) "still")) (.tru (.call "is_change" (.cons (.var 2) (.cons (.att (.var 1) "stack") (.nil))) []))) (.ret (.con (.str "barred"))) (.skip)) (.seq (.ite (.cmp .gt (.meth (.var 0) "cost" (.cons (.var 1) (.cons (.var 2) (.nil))) []) (.bin .sub (.att (.var 1) "given") (.att (.var 1) "used"))) (.ret (.con (.str "dry"))) (.skip)) (.ret (.con (.str ""))))))⟩
def F_Machine_unbegun : Fn := ⟨4, 4,
  .seq (.ite (.cmp .isN (.meth (.var 0) "account" (.cons (.var 3) (.nil)) []) (.con .non)) (.ret (.con (.str "nobody"))) (.skip)) (.seq (.ite (.cmp .gt (.att (.var 2) "depth") (.glo "DEEP")) (.ret (.con (.str "deep"))) (.skip)) (.seq (.ite (.and (.cmp .eq (.att (.var 2) "kind") (.con (.str "call"))) (.cmp .gt (.att (.var 2) "coin") (.att (.idx (.att (.var 0) "rooms") (.att (.var 1) "who")) "coin"))) (.ret (.con (.str "poor"))) (.skip)) (.ret (.con (.str "")))))⟩
def F_Machine_inner_call : Fn := ⟨3, 8,
  .seq (.asg 3 (.bm .pop (.att (.var 1) "stack") (.nil))) (.seq (.asg 4 (.bm .pop (.att (.var 1) "stack") (.nil))) (.seq (.asg 5 (.con (.int 0))) (.seq (.ite (.cmp .eq (.var 2) (.con (.str "call"))) (.asg 5 (.bm .pop (.att (.var 1) "stack") (.nil))) (.skip)) (.seq (.asg 6 (.bm .pop (.att (.var 1) "stack") (.nil))) (.seq (.ite (.cmp .eq (.var 2) (.con (.str "borrow"))) (.asg 7 (.new "Frame" (.cons (.var 2) (.cons (.att (.var 1) "who") (.cons (.var 6) (.cons (.att (.var 1) "caller") (.cons (.att (.var 1) "coin") (.cons (.var 3) (.nil))))))))) (.asg 7 (.new "Frame" (.cons (.var 2) (.cons (.var 6) (.cons (.var 6) (.cons (.att (.var 1) "who") (.cons (.var 5) (.cons (.var 3) (.nil)))))))))) (.seq (.sfld (.var 7) "depth" (.bin .add (.att (.var 1) "depth") (.con (.int 1)))) (.seq (.sfld (.var 7) "still" (.or (.att (.var 7) "still") (.att (.var 1) "still"))) (.ret (.tup (.cons (.var 7) (.cons (.var 6) (.cons (.var 4) (.nil)))))))))))))⟩
def F_Machine_begin : Fn := ⟨3, 7,
  .seq (.unp [3, 4, 5] (.meth (.var 0) "inner_call" (.cons (.var 1) (.cons (.var 2) (.nil))) [])) (.seq (.asg 6 (.meth (.var 0) "unbegun" (.cons (.var 1) (.cons (.var 3) (.cons (.var 4) (.nil)))) [])) (.seq (.ite (.cmp .ne (.var 6) (.con (.str ""))) (.drop (.meth (.var 3) "finish" (.cons (.var 6) (.cons (.con (.int 0)) (.nil))) [])) (.seq (.sfld (.var 3) "given" (.bi .min2 (.cons (.var 5) (.cons (.bin .sub (.att (.var 1) "given") (.att (.var 1) "used")) (.nil))))) (.drop (.meth (.var 0) "go" (.cons (.var 3) (.nil)) [])))) (.seq (.augf (.var 1) "used" .add (.att (.var 3) "used")) (.seq (.drop (.bm .append (.att (.var 1) "steps") (.cons (.meth (.var 3) "tree" (.nil) []) (.nil)))) (.seq (.drop (.bm .append (.att (.var 1) "stack") (.cons (.att (.var 3) "answer") (.nil)))) (.drop (.bm .append (.att (.var 1) "stack") (.cons (.bi .int (.cons (.cmp .eq (.att (.var 3) "end") (.con (.str "well"))) (.nil))) (.nil)))))))))⟩
def F_Machine_done : Fn := ⟨3, 8,
  .seq (.asg 3 (.idx (.var 2) (.con (.int 0)))) (.seq (.asg 4 (.att (.var 1) "stack")) (.ite (.cmp .inn (.var 3) (.tup (.cons (.con (.str "call")) (.cons (.con (.str "borrow")) (.cons (.con (.str "look")) (.nil)))))) (.drop (.meth (.var 0) "begin" (.cons (.var 1) (.cons (.var 3) (.nil))) [])) (.ite (.cmp .eq (.var 3) (.con (.str "load"))) (.drop (.bm .append (.var 4) (.cons (.meth (.idx (.att (.var 0) "rooms") (.att (.var 1) "who")) "loaded" (.cons (.bm .pop (.var 4) (.nil)) (.nil)) []) (.nil)))) (.ite (.cmp .eq (.var 3) (.con (.str "coin"))) (.seq (.asg 5 (.meth (.var 0) "account" (.cons (.bm .pop (.var 4) (.nil)) (.nil)) [])) (.ite (.cmp .isN (.var 5) (.con .non)) (.drop (.bm .append (.var 4) (.cons (.con (.int 0)) (.nil)))) (.drop (.bm .append (.var 4) (.cons (.att (.var 5) "coin") (.nil)))))) (.ite (.cmp .eq (.var 3) (.con (.str "save"))) (.seq (.asg 6 (.bm .pop (.var 4) (.nil))) (.seq (.asg 7 (.bm .pop (.var 4) (.nil))) (.drop (.meth (.var 0) "record" (.cons (.var 1) (.cons (.new "Save" (.cons (.att (.var 1) "who") (.cons (.var 7) (.cons (.meth (.idx (.att (.var 0) "rooms") (.att (.var 1) "who")) "loaded" (.cons (.var 7) (.nil)) []) (.cons (.var 6) (.nil)))))) (.nil))) [])))) (.ite (.cmp .eq (.var 3) (.con (.str "note"))) (.drop (.meth (.var 0) "record" (.cons (.var 1) (.cons (.new "Note" (.cons (.att (.var 1) "who") (.cons (.bm .pop (.var 4) (.nil)) (.nil)))) (.nil))) [])) (.drop (.meth (.var 1) "plain_row" (.cons (.var 2) (.nil)) []))))))))⟩
def F_Machine_step : Fn := ⟨2, 5,
  .seq (.asg 2 (.att (.idx (.att (.var 0) "rooms") (.att (.var 1) "whose")) "program")) (.ite (.cmp .eq (.att (.var 1) "at") (.bi .len (.cons (.var 2) (.nil)))) (.drop (.meth (.var 1) "finish" (.cons (.con (.str "well")) (.cons (.con (.int 0)) (.nil))) [])) (.seq (.asg 3 (.idx (.var 2) (.att (.var 1) "at"))) (.seq (.asg 4 (.meth (.var 0) "fault" (.cons (.var 1) (.cons (.var 3) (.nil))) [])) (.ite (.cmp .ne (.var 4) (.con (.str ""))) (.drop (.meth (.var 1) "finish" (.cons (.var 4) (.cons (.con (.int 0)) (.nil))) [])) (.seq (.augf (.var 1) "used" .add (.meth (.var 0) "cost" (.cons (.var 1) (.cons (.var 3) (.nil))) [])) (.seq (.drop (.bm .append (.att (.var 1) "steps") (.cons (.att (.var 1) "at") (.nil)))) (.seq (.augf (.var 1) "at" .add (.con (.int 1))) (.drop (.meth (.var 0) "done" (.cons (.var 1) (.cons (.var 3) (.nil))) [])))))))))⟩
def F_Machine_go : Fn := ⟨2, 3,
  .seq (.asg 2 (.meth (.att (.var 0) "journal") "mark" (.nil) [])) (.seq (.ite (.and (.cmp .eq (.att (.var 1) "kind") (.con (.str "call"))) (.cmp .gt (.att (.var 1) "coin") (.con (.int 0)))) (.drop (.meth (.var 0) "record" (.cons (.var 1) (.cons (.new "Move" (.cons (.att (.var 1) "caller") (.cons (.att (.var 1) "who") (.cons (.att (.var 1) "coin") (.nil))))) (.nil))) [])) (.skip)) (.seq (.wh (.cmp .eq (.att (.var 1) "end") (.con (.str ""))) (.drop (.meth (.var 0) "step" (.cons (.var 1) (.nil)) []))) (.ite (.cmp .ne (.att (.var 1) "end") (.con (.str "well"))) (.drop (.meth (.att (.var 0) "journal") "back" (.cons (.var 2) (.nil)) [])) (.skip))))⟩
def F_enter : Fn := ⟨7, 8,
  .seq (.asg 7 (.new "Frame" (.cons (.con (.str "call")) (.cons (.var 3) (.cons (.var 3) (.cons (.var 2) (.cons (.var 4) (.cons (.var 5) (.nil))))))))) (.seq (.sfld (.var 7) "given" (.var 6)) (.seq (.drop (.meth (.new "Machine" (.cons (.var 0) (.cons (.var 1) (.nil)))) "go" (.cons (.var 7) (.nil)) [])) (.ret (.meth (.var 7) "tree" (.nil) []))))⟩
def F_Account_init : Fn := ⟨4, 4,
  .seq (.sfld (.var 0) "coin" (.var 1)) (.seq (.sfld (.var 0) "purse" (.var 2)) (.seq (.sfld (.var 0) "count" (.con (.int 0))) (.seq (.sfld (.var 0) "program" (.bi .list (.cons (.var 3) (.nil)))) (.sfld (.var 0) "store" (.dict .nil)))))⟩
def F_Account_loaded : Fn := ⟨2, 2,
  .ret (.bm .get2 (.att (.var 0) "store") (.cons (.var 1) (.cons (.con (.int 0)) (.nil))))⟩
def F_Account_keep : Fn := ⟨3, 3,
  .ite (.cmp .ne (.var 2) (.con (.int 0))) (.dput (.att (.var 0) "store") (.var 1) (.var 2)) (.ite (.cmp .inn (.var 1) (.att (.var 0) "store")) (.drop (.bm .dpop (.att (.var 0) "store") (.cons (.var 1) (.nil)))) (.skip))⟩
def F_Journal_init : Fn := ⟨2, 2,
  .seq (.sfld (.var 0) "rooms" (.var 1)) (.sfld (.var 0) "kept" (.lst (.nil)))⟩
def F_Journal_write : Fn := ⟨2, 2,
  .seq (.drop (.meth (.var 1) "do" (.cons (.att (.var 0) "rooms") (.nil)) [])) (.drop (.bm .append (.att (.var 0) "kept") (.cons (.var 1) (.nil))))⟩
def F_Journal_mark : Fn := ⟨1, 1,
  .ret (.bi .len (.cons (.att (.var 0) "kept") (.nil)))⟩
def F_Journal_back : Fn := ⟨2, 3,
  .wh (.cmp .gt (.bi .len (.cons (.att (.var 0) "kept") (.nil))) (.var 1)) (.seq (.asg 2 (.bm .pop (.att (.var 0) "kept") (.nil))) (.drop (.meth (.var 2) "undo" (.cons (.att (.var 0) "rooms") (.nil)) [])))⟩
def F_Journal_told : Fn := ⟨1, 2,
  .ret (.comp (.meth (.var 1) "told" (.nil) []) [1] (.name 1) .seq (.cons (.att (.var 0) "kept") .nil) (.yes))⟩
def F_l_cell_at : Fn := ⟨2, 2,
  .seq (.ite (.cmp .lt (.var 1) (.bi .len (.cons (.var 0) (.nil)))) (.ret (.idx (.var 0) (.var 1))) (.skip)) (.ret (.con (.int 0)))⟩
def F_l_alike : Fn := ⟨2, 3,
  .seq (.ite (.tru (.isi (.var 1) .int)) (.ret (.and (.isi (.var 0) .int) (.and (.not (.isi (.var 0) .bool)) (.cmp .eq (.var 0) (.var 1))))) (.skip)) (.seq (.ite (.tru (.isi (.var 1) .str)) (.ret (.and (.isi (.var 0) .str) (.cmp .eq (.var 0) (.var 1)))) (.skip)) (.seq (.ite (.tru (.isi (.var 1) .tuple)) (.ite (.not (.tru (.isi (.var 0) .tuple))) (.ret (.con (.bl false))) (.skip)) (.ite (.not (.tru (.isi (.var 0) .list))) (.ret (.con (.bl false))) (.skip))) (.seq (.ite (.cmp .ne (.bi .len (.cons (.var 0) (.nil))) (.bi .len (.cons (.var 1) (.nil)))) (.ret (.con (.bl false))) (.skip)) (.seq (.for_ (.name 2) .range1 (.cons (.bi .len (.cons (.var 1) (.nil))) (.nil)) (.ite (.not (.tru (.call "_law_alike" (.cons (.idx (.var 0) (.var 2)) (.cons (.idx (.var 1) (.var 2)) (.nil))) []))) (.ret (.con (.bl false))) (.skip))) (.ret (.con (.bl true)))))))⟩
def F_l_program : Fn := ⟨4, 7,
  .seq (.asg 4 (.lst (.nil))) (.seq (.for_ (.name 5) .range1 (.cons (.var 0) (.nil)) (.seq (.drop (.bm .append (.var 4) (.cons (.tup (.cons (.con (.str "jump")) (.cons (.bin .add (.bi .len (.cons (.var 4) (.nil))) (.con (.int 2))) (.nil)))) (.nil)))) (.drop (.bm .append (.var 4) (.cons (.tup (.cons (.con (.str "drop")) (.nil))) (.nil)))))) (.seq (.drop (.bm .append (.var 4) (.cons (.tup (.cons (.con (.str "push")) (.cons (.var 1) (.nil)))) (.nil)))) (.seq (.asg 6 (.bi .len (.cons (.var 4) (.nil)))) (.seq (.for_ (.name 5) .range1 (.cons (.var 2) (.nil)) (.seq (.drop (.bm .append (.var 4) (.cons (.tup (.cons (.con (.str "push")) (.cons (.bin .fdiv (.var 1) (.bin .add (.var 5) (.con (.int 2)))) (.nil)))) (.nil)))) (.drop (.bm .append (.var 4) (.cons (.tup (.cons (.con (.str "drop")) (.nil))) (.nil)))))) (.seq (.asg 4 (.bin .add (.var 4) (.lst (.cons (.tup (.cons (.con (.str "push")) (.cons (.con (.int 1)) (.nil)))) (.cons (.tup (.cons (.con (.str "minus")) (.nil))) (.cons (.tup (.cons (.con (.str "copy")) (.cons (.con (.int 0)) (.nil)))) (.cons (.tup (.cons (.con (.str "jumpif")) (.cons (.var 6) (.nil)))) (.nil)))))))) (.seq (.ite (.cmp .lt (.var 3) (.con (.int 0))) (.ret (.bin .add (.var 4) (.lst (.cons (.tup (.cons (.con (.str "give")) (.nil))) (.nil))))) (.skip)) (.ret (.bin .add (.var 4) (.lst (.cons (.tup (.cons (.con (.str "push")) (.cons (.var 3) (.nil)))) (.cons (.tup (.cons (.con (.str "jumpif")) (.cons (.bin .add (.bi .len (.cons (.var 4) (.nil))) (.con (.int 3))) (.nil)))) (.cons (.tup (.cons (.con (.str "fail")) (.nil))) (.nil)))))))))))))⟩
def F_l_gone : Fn := ⟨4, 9,
  .seq (.asg 4 (.bin .add (.comp (.bin .mul (.con (.int 2)) (.var 8)) [8] (.name 8) .range1 (.cons (.var 0) (.nil)) (.yes)) (.lst (.cons (.bin .mul (.con (.int 2)) (.var 0)) (.nil))))) (.seq (.asg 5 (.var 1)) (.seq (.asg 6 (.comp (.bin .add (.bin .add (.bin .mul (.con (.int 2)) (.var 0)) (.con (.int 1))) (.var 8)) [8] (.name 8) .range1 (.cons (.bin .add (.bin .mul (.con (.int 2)) (.var 2)) (.con (.int 4))) (.nil)) (.yes))) (.seq (.wh (.cmp .lt (.bi .len (.cons (.var 4) (.nil))) (.var 3)) (.seq (.for_ (.name 7) .seq (.cons (.var 6) .nil) (.drop (.bm .append (.var 4) (.cons (.var 7) (.nil))))) (.seq (.asg 5 (.bin .sub (.var 5) (.con (.int 1)))) (.ite (.cmp .eq (.var 5) (.con (.int 0))) (.ret (.var 4)) (.skip))))) (.ret (.var 4)))))⟩
def F_law : Fn := ⟨1, 12,
  .seq (.asg 1 (.bin .mod (.call "_law_cell_at" (.cons (.var 0) (.cons (.con (.int 0)) (.nil))) []) (.con (.int 6)))) (.seq (.asg 2 (.bin .mod (.bin .fdiv (.call "_law_cell_at" (.cons (.var 0) (.cons (.con (.int 0)) (.nil))) []) (.con (.int 6))) (.con (.int 4)))) (.seq (.asg 3 (.bin .mod (.bin .fdiv (.call "_law_cell_at" (.cons (.var 0) (.cons (.con (.int 1)) (.nil))) []) (.con (.int 2))) (.bin .pow (.con (.int 2)) (.con (.int 64))))) (.seq (.ite (.cmp .eq (.bin .mod (.call "_law_cell_at" (.cons (.var 0) (.cons (.con (.int 1)) (.nil))) []) (.con (.int 2))) (.con (.int 0))) (.asg 3 (.bin .mod (.var 3) (.con (.int 12)))) (.skip)) (.seq (.asg 4 (.bin .mod (.bin .fdiv (.call "_law_cell_at" (.cons (.var 0) (.cons (.con (.int 2)) (.nil))) []) (.con (.int 8))) (.con (.int 300)))) (.seq (.ite (.cmp .eq (.bin .mod (.call "_law_cell_at" (.cons (.var 0) (.cons (.con (.int 2)) (.nil))) []) (.con (.int 8))) (.con (.int 3))) (.asg 4 (.bin .add (.con (.int 300)) (.bin .mod (.bin .fdiv (.call "_law_cell_at" (.cons (.var 0) (.cons (.con (.int 2)) (.nil))) []) (.con (.int 8))) (.con (.int 1200))))) (.skip)) (.seq (.asg 5 (.bin .mod (.bin .fdiv (.call "_law_cell_at" (.cons (.var 0) (.cons (.con (.int 3)) (.nil))) []) (.con (.int 3))) (.bin .pow (.con (.int 2)) (.con (.int 64))))) (.seq (.ite (.cmp .eq (.bin .mod (.call "_law_cell_at" (.cons (.var 0) (.cons (.con (.int 3)) (.nil))) []) (.con (.int 3))) (.con (.int 0))) (.asg 5 (.neg (.con (.int 1)))) (.skip)) (.seq (.ite (.cmp .eq (.bin .mod (.call "_law_cell_at" (.cons (.var 0) (.cons (.con (.int 3)) (.nil))) []) (.con (.int 3))) (.con (.int 1))) (.asg 5 (.con (.int 0))) (.skip)) (.seq (.asg 6 (.call "_law_program" (.cons (.var 1) (.cons (.var 3) (.cons (.var 2) (.cons (.var 5) (.nil))))) [])) (.seq (.asg 7 (.call "_law_gone" (.cons (.var 1) (.cons (.var 3) (.cons (.var 2) (.cons (.bin .add (.var 4) (.con (.int 20))) (.nil))))) [])) (.seq (.asg 8 (.bin .add (.bin .add (.bin .mul (.con (.int 2)) (.var 1)) (.bin .mul (.con (.int 2)) (.var 2))) (.con (.int 5)))) (.seq (.ite (.cmp .lt (.var 5) (.con (.int 0))) (.asg 7 (.bin .add (.var 7) (.lst (.cons (.var 8) (.nil))))) (.seq (.asg 7 (.bin .add (.var 7) (.lst (.cons (.var 8) (.cons (.bin .add (.var 8) (.con (.int 1))) (.nil)))))) (.ite (.cmp .eq (.var 5) (.con (.int 0))) (.asg 7 (.bin .add (.var 7) (.lst (.cons (.bin .add (.var 8) (.con (.int 2))) (.nil))))) (.skip)))) (.seq (.asg 9 (.con (.str "well"))) (.seq (.ite (.cmp .eq (.var 5) (.con (.int 0))) (.asg 9 (.con (.str "fail"))) (.skip)) (.seq (.ite (.cmp .gt (.bi .len (.cons (.var 7) (.nil))) (.var 4)) (.seq (.asg 7 (.slc (.var 7) .none (.some (.var 4)))) (.asg 9 (.con (.str "dry")))) (.skip)) (.seq (.asg 10 (.bin .mul (.lst (.cons (.con .non) (.nil))) (.con (.int 16)))) (.seq (.sidx (.var 10) (.con (.int 2)) (.new "Account" (.cons (.con (.int 10)) (.cons (.con (.int 3)) (.cons (.lst (.nil)) (.nil)))))) (.seq (.sidx (.var 10) (.con (.int 9)) (.new "Account" (.cons (.con (.int 10)) (.cons (.con (.int 7)) (.cons (.var 6) (.nil)))))) (.seq (.asg 11 (.call "enter" (.cons (.var 10) (.cons (.new "Journal" (.cons (.var 10) (.nil))) (.cons (.con (.int 2)) (.cons (.con (.int 9)) (.cons (.con (.int 0)) (.cons (.con (.int 5)) (.cons (.var 4) (.nil)))))))) [])) (.ret (.call "_law_alike" (.cons (.var 11) (.cons (.tup (.cons (.con (.str "call")) (.cons (.con (.int 9)) (.cons (.con (.int 9)) (.cons (.con (.int 2)) (.cons (.con (.int 0)) (.cons (.con (.int 5)) (.cons (.var 4) (.cons (.var 9) (.cons (.con (.int 0)) (.cons (.bi .len (.cons (.var 7) (.nil))) (.cons (.var 7) (.nil))))))))))))) (.nil))) [])))))))))))))))))))))⟩
def F_Note_do : Fn := ⟨2, 2,
  .ret (.con .non)⟩
def F_Note_undo : Fn := ⟨2, 2,
  .ret (.con .non)⟩
def PR : Prog where
  fn := fun x => match x with | "Deed.do" => some F_Deed_do | "Deed.undo" => some F_Deed_undo | "Deed.told" => some F_Deed_told | "Save.__init__" => some F_Save_init | "Save.do" => some F_Save_do | "Save.undo" => some F_Save_undo | "Save.told" => some F_Save_told | "carry" => some F_carry | "Move.__init__" => some F_Move_init | "Move.do" => some F_Move_do | "Move.undo" => some F_Move_undo | "Move.told" => some F_Move_told | "Note.__init__" => some F_Note_init | "Note.told" => some F_Note_told | "reckons" => some F_reckons | "takes" => some F_takes | "leaves" => some F_leaves | "price" => some F_price | "shared" => some F_shared | "moved" => some F_moved | "reckon" => some F_reckon | "Frame.__init__" => some F_Frame_init | "Frame.finish" => some F_Frame_finish | "Frame.is_short" => some F_Frame_is_short | "Frame.is_full" => some F_Frame_is_full | "Frame.tree" => some F_Frame_tree | "Frame.place" => some F_Frame_place | "Frame.move_about" => some F_Frame_move_about | "Frame.lead" => some F_Frame_lead | "Frame.plain_row" => some F_Frame_plain_row | "is_change" => some F_is_change | "Machine.__init__" => some F_Machine_init | "Machine.account" => some F_Machine_account | "Machine.record" => some F_Machine_record | "Machine.cost" => some F_Machine_cost | "Machine.fault" => some F_Machine_fault | "Machine.unbegun" => some F_Machine_unbegun | "Machine.inner_call" => some F_Machine_inner_call | "Machine.begin" => some F_Machine_begin | "Machine.done" => some F_Machine_done | "Machine.step" => some F_Machine_step | "Machine.go" => some F_Machine_go | "enter" => some F_enter | "Account.__init__" => some F_Account_init | "Account.loaded" => some F_Account_loaded | "Account.keep" => some F_Account_keep | "Journal.__init__" => some F_Journal_init | "Journal.write" => some F_Journal_write | "Journal.mark" => some F_Journal_mark | "Journal.back" => some F_Journal_back | "Journal.told" => some F_Journal_told | "_law_cell_at" => some F_l_cell_at | "_law_alike" => some F_l_alike | "_law_program" => some F_l_program | "_law_gone" => some F_l_gone | "law" => some F_law | "Note.do" => some F_Note_do | "Note.undo" => some F_Note_undo | _ => none
  glob := fun x => match x with | "DEEP" => some (.int 8) | "STACK" => some (.int 24) | "WIDE" => some (.int 18446744073709551616) | "WORDS" => some (.tup [.str "push", .str "drop", .str "copy", .str "swap", .str "add", .str "minus", .str "times", .str "over", .str "rest", .str "below", .str "same", .str "both", .str "either", .str "unlike", .str "up", .str "down", .str "jump", .str "jumpif", .str "load", .str "save", .str "me", .str "from", .str "sent", .str "word", .str "coin", .str "note", .str "call", .str "borrow", .str "look", .str "give", .str "fail"]) | _ => none
  mt := fun x y => if y = "do" then (if x = "Deed" then some "Deed.do" else if x = "Save" then some "Save.do" else if x = "Move" then some "Move.do" else if x = "Note" then some "Note.do" else none) else if y = "undo" then (if x = "Deed" then some "Deed.undo" else if x = "Save" then some "Save.undo" else if x = "Move" then some "Move.undo" else if x = "Note" then some "Note.undo" else none) else if y = "told" then (if x = "Deed" then some "Deed.told" else if x = "Save" then some "Save.told" else if x = "Move" then some "Move.told" else if x = "Note" then some "Note.told" else if x = "Journal" then some "Journal.told" else none) else if y = "__init__" then (if x = "Save" then some "Save.__init__" else if x = "Move" then some "Move.__init__" else if x = "Note" then some "Note.__init__" else if x = "Frame" then some "Frame.__init__" else if x = "Machine" then some "Machine.__init__" else if x = "Account" then some "Account.__init__" else if x = "Journal" then some "Journal.__init__" else none) else if y = "finish" then (if x = "Frame" then some "Frame.finish" else none) else if y = "is_short" then (if x = "Frame" then some "Frame.is_short" else none) else if y = "is_full" then (if x = "Frame" then some "Frame.is_full" else none) else if y = "tree" then (if x = "Frame" then some "Frame.tree" else none) else if y = "place" then (if x = "Frame" then some "Frame.place" else none) else if y = "move_about" then (if x = "Frame" then some "Frame.move_about" else none) else if y = "lead" then (if x = "Frame" then some "Frame.lead" else none) else if y = "plain_row" then (if x = "Frame" then some "Frame.plain_row" else none) else if y = "account" then (if x = "Machine" then some "Machine.account" else none) else if y = "record" then (if x = "Machine" then some "Machine.record" else none) else if y = "cost" then (if x = "Machine" then some "Machine.cost" else none) else if y = "fault" then (if x = "Machine" then some "Machine.fault" else none) else if y = "unbegun" then (if x = "Machine" then some "Machine.unbegun" else none) else if y = "inner_call" then (if x = "Machine" then some "Machine.inner_call" else none) else if y = "begin" then (if x = "Machine" then some "Machine.begin" else none) else if y = "done" then (if x = "Machine" then some "Machine.done" else none) else if y = "step" then (if x = "Machine" then some "Machine.step" else none) else if y = "go" then (if x = "Machine" then some "Machine.go" else none) else if y = "loaded" then (if x = "Account" then some "Account.loaded" else none) else if y = "keep" then (if x = "Account" then some "Account.keep" else none) else if y = "write" then (if x = "Journal" then some "Journal.write" else none) else if y = "mark" then (if x = "Journal" then some "Journal.mark" else none) else if y = "back" then (if x = "Journal" then some "Journal.back" else none) else none
  fld := fun x y => match x, y with | "Save", "slot" => true | "Save", "spot" => true | "Save", "old" => true | "Save", "new" => true | "Move", "slot" => true | "Move", "taker" => true | "Move", "many" => true | "Note", "slot" => true | "Note", "number" => true | "Frame", "kind" => true | "Frame", "who" => true | "Frame", "whose" => true | "Frame", "caller" => true | "Frame", "coin" => true | "Frame", "word" => true | "Frame", "given" => true | "Frame", "depth" => true | "Frame", "still" => true | "Frame", "stack" => true | "Frame", "at" => true | "Frame", "used" => true | "Frame", "steps" => true | "Frame", "end" => true | "Frame", "answer" => true | "Machine", "rooms" => true | "Machine", "journal" => true | "Account", "coin" => true | "Account", "purse" => true | "Account", "count" => true | "Account", "program" => true | "Account", "store" => true | "Journal", "rooms" => true | "Journal", "kept" => true | _, _ => false
  exm := fun _ _ => none
  lf := 1000000
theorem fn_Deed_do : PR.fn "Deed.do" = some F_Deed_do := by first | rfl | simp [PR]
theorem fn_Deed_undo : PR.fn "Deed.undo" = some F_Deed_undo := by first | rfl | simp [PR]
theorem fn_Deed_told : PR.fn "Deed.told" = some F_Deed_told := by first | rfl | simp [PR]
theorem fn_Save_init : PR.fn "Save.__init__" = some F_Save_init := by first | rfl | simp [PR]
theorem fn_Save_do : PR.fn "Save.do" = some F_Save_do := by first | rfl | simp [PR]
theorem fn_Save_undo : PR.fn "Save.undo" = some F_Save_undo := by first | rfl | simp [PR]
theorem fn_Save_told : PR.fn "Save.told" = some F_Save_told := by first | rfl | simp [PR]
theorem fn_carry : PR.fn "carry" = some F_carry := by first | rfl | simp [PR]
theorem fn_Move_init : PR.fn "Move.__init__" = some F_Move_init := by first | rfl | simp [PR]
theorem fn_Move_do : PR.fn "Move.do" = some F_Move_do := by first | rfl | simp [PR]
theorem fn_Move_undo : PR.fn "Move.undo" = some F_Move_undo := by first | rfl | simp [PR]
theorem fn_Move_told : PR.fn "Move.told" = some F_Move_told := by first | rfl | simp [PR]
theorem fn_Note_init : PR.fn "Note.__init__" = some F_Note_init := by first | rfl | simp [PR]
theorem fn_Note_told : PR.fn "Note.told" = some F_Note_told := by first | rfl | simp [PR]
theorem fn_reckons : PR.fn "reckons" = some F_reckons := by first | rfl | simp [PR]
theorem fn_takes : PR.fn "takes" = some F_takes := by first | rfl | simp [PR]
theorem fn_leaves : PR.fn "leaves" = some F_leaves := by first | rfl | simp [PR]
theorem fn_price : PR.fn "price" = some F_price := by first | rfl | simp [PR]
theorem fn_shared : PR.fn "shared" = some F_shared := by first | rfl | simp [PR]
theorem fn_moved : PR.fn "moved" = some F_moved := by first | rfl | simp [PR]
theorem fn_reckon : PR.fn "reckon" = some F_reckon := by first | rfl | simp [PR]
theorem fn_Frame_init : PR.fn "Frame.__init__" = some F_Frame_init := by first | rfl | simp [PR]
theorem fn_Frame_finish : PR.fn "Frame.finish" = some F_Frame_finish := by first | rfl | simp [PR]
theorem fn_Frame_is_short : PR.fn "Frame.is_short" = some F_Frame_is_short := by first | rfl | simp [PR]
theorem fn_Frame_is_full : PR.fn "Frame.is_full" = some F_Frame_is_full := by first | rfl | simp [PR]
theorem fn_Frame_tree : PR.fn "Frame.tree" = some F_Frame_tree := by first | rfl | simp [PR]
theorem fn_Frame_place : PR.fn "Frame.place" = some F_Frame_place := by first | rfl | simp [PR]
theorem fn_Frame_move_about : PR.fn "Frame.move_about" = some F_Frame_move_about := by first | rfl | simp [PR]
theorem fn_Frame_lead : PR.fn "Frame.lead" = some F_Frame_lead := by first | rfl | simp [PR]
theorem fn_Frame_plain_row : PR.fn "Frame.plain_row" = some F_Frame_plain_row := by first | rfl | simp [PR]
theorem fn_is_change : PR.fn "is_change" = some F_is_change := by first | rfl | simp [PR]
theorem fn_Machine_init : PR.fn "Machine.__init__" = some F_Machine_init := by first | rfl | simp [PR]
theorem fn_Machine_account : PR.fn "Machine.account" = some F_Machine_account := by first | rfl | simp [PR]
theorem fn_Machine_record : PR.fn "Machine.record" = some F_Machine_record := by first | rfl | simp [PR]
theorem fn_Machine_cost : PR.fn "Machine.cost" = some F_Machine_cost := by first | rfl | simp [PR]
theorem fn_Machine_fault : PR.fn "Machine.fault" = some F_Machine_fault := by first | rfl | simp [PR]
theorem fn_Machine_unbegun : PR.fn "Machine.unbegun" = some F_Machine_unbegun := by first | rfl | simp [PR]
theorem fn_Machine_inner_call : PR.fn "Machine.inner_call" = some F_Machine_inner_call := by first | rfl | simp [PR]
theorem fn_Machine_begin : PR.fn "Machine.begin" = some F_Machine_begin := by first | rfl | simp [PR]
theorem fn_Machine_done : PR.fn "Machine.done" = some F_Machine_done := by first | rfl | simp [PR]
theorem fn_Machine_step : PR.fn "Machine.step" = some F_Machine_step := by first | rfl | simp [PR]
theorem fn_Machine_go : PR.fn "Machine.go" = some F_Machine_go := by first | rfl | simp [PR]
theorem fn_enter : PR.fn "enter" = some F_enter := by first | rfl | simp [PR]
theorem fn_Account_init : PR.fn "Account.__init__" = some F_Account_init := by first | rfl | simp [PR]
theorem fn_Account_loaded : PR.fn "Account.loaded" = some F_Account_loaded := by first | rfl | simp [PR]
theorem fn_Account_keep : PR.fn "Account.keep" = some F_Account_keep := by first | rfl | simp [PR]
theorem fn_Journal_init : PR.fn "Journal.__init__" = some F_Journal_init := by first | rfl | simp [PR]
theorem fn_Journal_write : PR.fn "Journal.write" = some F_Journal_write := by first | rfl | simp [PR]
theorem fn_Journal_mark : PR.fn "Journal.mark" = some F_Journal_mark := by first | rfl | simp [PR]
theorem fn_Journal_back : PR.fn "Journal.back" = some F_Journal_back := by first | rfl | simp [PR]
theorem fn_Journal_told : PR.fn "Journal.told" = some F_Journal_told := by first | rfl | simp [PR]
theorem fn_l_cell_at : PR.fn "_law_cell_at" = some F_l_cell_at := by first | rfl | simp [PR]
theorem fn_l_alike : PR.fn "_law_alike" = some F_l_alike := by first | rfl | simp [PR]
theorem fn_l_program : PR.fn "_law_program" = some F_l_program := by first | rfl | simp [PR]
theorem fn_l_gone : PR.fn "_law_gone" = some F_l_gone := by first | rfl | simp [PR]
theorem fn_law : PR.fn "law" = some F_law := by first | rfl | simp [PR]
theorem fn_Note_do : PR.fn "Note.do" = some F_Note_do := by first | rfl | simp [PR]
theorem fn_Note_undo : PR.fn "Note.undo" = some F_Note_undo := by first | rfl | simp [PR]
@[simp] theorem gl_DEEP : PR.glob "DEEP" = some (.int 8) := by first | rfl | simp [PR]
@[simp] theorem gl_STACK : PR.glob "STACK" = some (.int 24) := by first | rfl | simp [PR]
@[simp] theorem gl_WIDE : PR.glob "WIDE" = some (.int 18446744073709551616) := by first | rfl | simp [PR]
@[simp] theorem gl_WORDS : PR.glob "WORDS" = some (.tup [.str "push", .str "drop", .str "copy", .str "swap", .str "add", .str "minus", .str "times", .str "over", .str "rest", .str "below", .str "same", .str "both", .str "either", .str "unlike", .str "up", .str "down", .str "jump", .str "jumpif", .str "load", .str "save", .str "me", .str "from", .str "sent", .str "word", .str "coin", .str "note", .str "call", .str "borrow", .str "look", .str "give", .str "fail"]) := by first | rfl | simp [PR]
@[simp] theorem mt_Deed_do : PR.mt "Deed" "do" = some "Deed.do" := by first | rfl | simp [PR]
@[simp] theorem mt_Deed_undo : PR.mt "Deed" "undo" = some "Deed.undo" := by first | rfl | simp [PR]
@[simp] theorem mt_Deed_told : PR.mt "Deed" "told" = some "Deed.told" := by first | rfl | simp [PR]
@[simp] theorem mt_Save_init : PR.mt "Save" "__init__" = some "Save.__init__" := by first | rfl | simp [PR]
@[simp] theorem mt_Save_do : PR.mt "Save" "do" = some "Save.do" := by first | rfl | simp [PR]
@[simp] theorem mt_Save_undo : PR.mt "Save" "undo" = some "Save.undo" := by first | rfl | simp [PR]
@[simp] theorem mt_Save_told : PR.mt "Save" "told" = some "Save.told" := by first | rfl | simp [PR]
@[simp] theorem mt_Move_init : PR.mt "Move" "__init__" = some "Move.__init__" := by first | rfl | simp [PR]
@[simp] theorem mt_Move_do : PR.mt "Move" "do" = some "Move.do" := by first | rfl | simp [PR]
@[simp] theorem mt_Move_undo : PR.mt "Move" "undo" = some "Move.undo" := by first | rfl | simp [PR]
@[simp] theorem mt_Move_told : PR.mt "Move" "told" = some "Move.told" := by first | rfl | simp [PR]
@[simp] theorem mt_Note_init : PR.mt "Note" "__init__" = some "Note.__init__" := by first | rfl | simp [PR]
@[simp] theorem mt_Note_told : PR.mt "Note" "told" = some "Note.told" := by first | rfl | simp [PR]
@[simp] theorem mt_Frame_init : PR.mt "Frame" "__init__" = some "Frame.__init__" := by first | rfl | simp [PR]
@[simp] theorem mt_Frame_finish : PR.mt "Frame" "finish" = some "Frame.finish" := by first | rfl | simp [PR]
@[simp] theorem mt_Frame_is_short : PR.mt "Frame" "is_short" = some "Frame.is_short" := by first | rfl | simp [PR]
@[simp] theorem mt_Frame_is_full : PR.mt "Frame" "is_full" = some "Frame.is_full" := by first | rfl | simp [PR]
@[simp] theorem mt_Frame_tree : PR.mt "Frame" "tree" = some "Frame.tree" := by first | rfl | simp [PR]
@[simp] theorem mt_Frame_place : PR.mt "Frame" "place" = some "Frame.place" := by first | rfl | simp [PR]
@[simp] theorem mt_Frame_move_about : PR.mt "Frame" "move_about" = some "Frame.move_about" := by first | rfl | simp [PR]
@[simp] theorem mt_Frame_lead : PR.mt "Frame" "lead" = some "Frame.lead" := by first | rfl | simp [PR]
@[simp] theorem mt_Frame_plain_row : PR.mt "Frame" "plain_row" = some "Frame.plain_row" := by first | rfl | simp [PR]
@[simp] theorem mt_Machine_init : PR.mt "Machine" "__init__" = some "Machine.__init__" := by first | rfl | simp [PR]
@[simp] theorem mt_Machine_account : PR.mt "Machine" "account" = some "Machine.account" := by first | rfl | simp [PR]
@[simp] theorem mt_Machine_record : PR.mt "Machine" "record" = some "Machine.record" := by first | rfl | simp [PR]
@[simp] theorem mt_Machine_cost : PR.mt "Machine" "cost" = some "Machine.cost" := by first | rfl | simp [PR]
@[simp] theorem mt_Machine_fault : PR.mt "Machine" "fault" = some "Machine.fault" := by first | rfl | simp [PR]
@[simp] theorem mt_Machine_unbegun : PR.mt "Machine" "unbegun" = some "Machine.unbegun" := by first | rfl | simp [PR]
@[simp] theorem mt_Machine_inner_call : PR.mt "Machine" "inner_call" = some "Machine.inner_call" := by first | rfl | simp [PR]
@[simp] theorem mt_Machine_begin : PR.mt "Machine" "begin" = some "Machine.begin" := by first | rfl | simp [PR]
@[simp] theorem mt_Machine_done : PR.mt "Machine" "done" = some "Machine.done" := by first | rfl | simp [PR]
@[simp] theorem mt_Machine_step : PR.mt "Machine" "step" = some "Machine.step" := by first | rfl | simp [PR]
@[simp] theorem mt_Machine_go : PR.mt "Machine" "go" = some "Machine.go" := by first | rfl | simp [PR]
@[simp] theorem mt_Account_init : PR.mt "Account" "__init__" = some "Account.__init__" := by first | rfl | simp [PR]
@[simp] theorem mt_Account_loaded : PR.mt "Account" "loaded" = some "Account.loaded" := by first | rfl | simp [PR]
@[simp] theorem mt_Account_keep : PR.mt "Account" "keep" = some "Account.keep" := by first | rfl | simp [PR]
@[simp] theorem mt_Journal_init : PR.mt "Journal" "__init__" = some "Journal.__init__" := by first | rfl | simp [PR]
@[simp] theorem mt_Journal_write : PR.mt "Journal" "write" = some "Journal.write" := by first | rfl | simp [PR]
@[simp] theorem mt_Journal_mark : PR.mt "Journal" "mark" = some "Journal.mark" := by first | rfl | simp [PR]
@[simp] theorem mt_Journal_back : PR.mt "Journal" "back" = some "Journal.back" := by first | rfl | simp [PR]
@[simp] theorem mt_Journal_told : PR.mt "Journal" "told" = some "Journal.told" := by first | rfl | simp [PR]
@[simp] theorem mt_Note_do : PR.mt "Note" "do" = some "Note.do" := by first | rfl | simp [PR]
@[simp] theorem mt_Note_undo : PR.mt "Note" "undo" = some "Note.undo" := by first | rfl | simp [PR]
@[simp] theorem fl_Save_slot : PR.fld "Save" "slot" = true := by first | rfl | simp [PR]
@[simp] theorem fl_Save_spot : PR.fld "Save" "spot" = true := by first | rfl | simp [PR]
@[simp] theorem fl_Save_old : PR.fld "Save" "old" = true := by first | rfl | simp [PR]
@[simp] theorem fl_Save_new : PR.fld "Save" "new" = true := by first | rfl | simp [PR]
@[simp] theorem fl_Move_slot : PR.fld "Move" "slot" = true := by first | rfl | simp [PR]
@[simp] theorem fl_Move_taker : PR.fld "Move" "taker" = true := by first | rfl | simp [PR]
@[simp] theorem fl_Move_many : PR.fld "Move" "many" = true := by first | rfl | simp [PR]
@[simp] theorem fl_Note_slot : PR.fld "Note" "slot" = true := by first | rfl | simp [PR]
@[simp] theorem fl_Note_number : PR.fld "Note" "number" = true := by first | rfl | simp [PR]
@[simp] theorem fl_Frame_kind : PR.fld "Frame" "kind" = true := by first | rfl | simp [PR]
@[simp] theorem fl_Frame_who : PR.fld "Frame" "who" = true := by first | rfl | simp [PR]
@[simp] theorem fl_Frame_whose : PR.fld "Frame" "whose" = true := by first | rfl | simp [PR]
@[simp] theorem fl_Frame_caller : PR.fld "Frame" "caller" = true := by first | rfl | simp [PR]
@[simp] theorem fl_Frame_coin : PR.fld "Frame" "coin" = true := by first | rfl | simp [PR]
@[simp] theorem fl_Frame_word : PR.fld "Frame" "word" = true := by first | rfl | simp [PR]
@[simp] theorem fl_Frame_given : PR.fld "Frame" "given" = true := by first | rfl | simp [PR]
@[simp] theorem fl_Frame_depth : PR.fld "Frame" "depth" = true := by first | rfl | simp [PR]
@[simp] theorem fl_Frame_still : PR.fld "Frame" "still" = true := by first | rfl | simp [PR]
@[simp] theorem fl_Frame_stack : PR.fld "Frame" "stack" = true := by first | rfl | simp [PR]
@[simp] theorem fl_Frame_at : PR.fld "Frame" "at" = true := by first | rfl | simp [PR]
@[simp] theorem fl_Frame_used : PR.fld "Frame" "used" = true := by first | rfl | simp [PR]
@[simp] theorem fl_Frame_steps : PR.fld "Frame" "steps" = true := by first | rfl | simp [PR]
@[simp] theorem fl_Frame_end : PR.fld "Frame" "end" = true := by first | rfl | simp [PR]
@[simp] theorem fl_Frame_answer : PR.fld "Frame" "answer" = true := by first | rfl | simp [PR]
@[simp] theorem fl_Machine_rooms : PR.fld "Machine" "rooms" = true := by first | rfl | simp [PR]
@[simp] theorem fl_Machine_journal : PR.fld "Machine" "journal" = true := by first | rfl | simp [PR]
@[simp] theorem fl_Account_coin : PR.fld "Account" "coin" = true := by first | rfl | simp [PR]
@[simp] theorem fl_Account_purse : PR.fld "Account" "purse" = true := by first | rfl | simp [PR]
@[simp] theorem fl_Account_count : PR.fld "Account" "count" = true := by first | rfl | simp [PR]
@[simp] theorem fl_Account_program : PR.fld "Account" "program" = true := by first | rfl | simp [PR]
@[simp] theorem fl_Account_store : PR.fld "Account" "store" = true := by first | rfl | simp [PR]
@[simp] theorem fl_Journal_rooms : PR.fld "Journal" "rooms" = true := by first | rfl | simp [PR]
@[simp] theorem fl_Journal_kept : PR.fld "Journal" "kept" = true := by first | rfl | simp [PR]
def gv (K : PySem.W.Frag) (x : String) : V := match x with | "DEEP" => (.int 8) | "STACK" => (.int 24) | "WIDE" => (.int 18446744073709551616) | "WORDS" => (.ref (ca K "WORDS")) | _ => .non
abbrev st_Deed_do : Stmt := inClass (top 2) 0
theorem sc_Deed_do : FnScope ["self", "rooms"] ["self", "rooms"] (defScope st_Deed_do) := ⟨rfl, rfl, rfl, by decide +kernel, rfl, by decide +kernel, by decide +kernel⟩
def df_Deed_do : He.DefD := ⟨("Deed", some "do"), "do", "Deed.do", defArgs st_Deed_do, defBody st_Deed_do, defScope st_Deed_do, [], []⟩
abbrev FN_Deed_do (K : PySem.W.Frag) (fd : FuncData) : Prop := FunD K "do" "Deed.do" (defArgs st_Deed_do) (defBody st_Deed_do) (defScope st_Deed_do) [] [] (He.fAd K ("Deed", some "do")) fd
abbrev st_Deed_undo : Stmt := inClass (top 2) 1
theorem sc_Deed_undo : FnScope ["self", "rooms"] ["self", "rooms"] (defScope st_Deed_undo) := ⟨rfl, rfl, rfl, by decide +kernel, rfl, by decide +kernel, by decide +kernel⟩
def df_Deed_undo : He.DefD := ⟨("Deed", some "undo"), "undo", "Deed.undo", defArgs st_Deed_undo, defBody st_Deed_undo, defScope st_Deed_undo, [], []⟩
abbrev FN_Deed_undo (K : PySem.W.Frag) (fd : FuncData) : Prop := FunD K "undo" "Deed.undo" (defArgs st_Deed_undo) (defBody st_Deed_undo) (defScope st_Deed_undo) [] [] (He.fAd K ("Deed", some "undo")) fd
abbrev st_Deed_told : Stmt := inClass (top 2) 2
theorem sc_Deed_told : FnScope ["self"] ["self"] (defScope st_Deed_told) := ⟨rfl, rfl, rfl, by decide +kernel, rfl, by decide +kernel, by decide +kernel⟩
def df_Deed_told : He.DefD := ⟨("Deed", some "told"), "told", "Deed.told", defArgs st_Deed_told, defBody st_Deed_told, defScope st_Deed_told, [], []⟩
abbrev FN_Deed_told (K : PySem.W.Frag) (fd : FuncData) : Prop := FunD K "told" "Deed.told" (defArgs st_Deed_told) (defBody st_Deed_told) (defScope st_Deed_told) [] [] (He.fAd K ("Deed", some "told")) fd
abbrev st_Save_init : Stmt := inClass (top 3) 0
theorem sc_Save_init : FnScope ["self", "slot", "place", "old", "new"] ["self", "slot", "place", "old", "new"] (defScope st_Save_init) := ⟨rfl, rfl, rfl, by decide +kernel, rfl, by decide +kernel, by decide +kernel⟩
def df_Save_init : He.DefD := ⟨("Save", some "__init__"), "__init__", "Save.__init__", defArgs st_Save_init, defBody st_Save_init, defScope st_Save_init, [], []⟩
abbrev FN_Save_init (K : PySem.W.Frag) (fd : FuncData) : Prop := FunD K "__init__" "Save.__init__" (defArgs st_Save_init) (defBody st_Save_init) (defScope st_Save_init) [] [] (He.fAd K ("Save", some "__init__")) fd
abbrev st_Save_do : Stmt := inClass (top 3) 1
theorem sc_Save_do : FnScope ["self", "rooms"] ["self", "rooms"] (defScope st_Save_do) := ⟨rfl, rfl, rfl, by decide +kernel, rfl, by decide +kernel, by decide +kernel⟩
def df_Save_do : He.DefD := ⟨("Save", some "do"), "do", "Save.do", defArgs st_Save_do, defBody st_Save_do, defScope st_Save_do, [], []⟩
abbrev FN_Save_do (K : PySem.W.Frag) (fd : FuncData) : Prop := FunD K "do" "Save.do" (defArgs st_Save_do) (defBody st_Save_do) (defScope st_Save_do) [] [] (He.fAd K ("Save", some "do")) fd
abbrev st_Save_undo : Stmt := inClass (top 3) 2
theorem sc_Save_undo : FnScope ["self", "rooms"] ["self", "rooms"] (defScope st_Save_undo) := ⟨rfl, rfl, rfl, by decide +kernel, rfl, by decide +kernel, by decide +kernel⟩
def df_Save_undo : He.DefD := ⟨("Save", some "undo"), "undo", "Save.undo", defArgs st_Save_undo, defBody st_Save_undo, defScope st_Save_undo, [], []⟩
abbrev FN_Save_undo (K : PySem.W.Frag) (fd : FuncData) : Prop := FunD K "undo" "Save.undo" (defArgs st_Save_undo) (defBody st_Save_undo) (defScope st_Save_undo) [] [] (He.fAd K ("Save", some "undo")) fd
abbrev st_Save_told : Stmt := inClass (top 3) 3
theorem sc_Save_told : FnScope ["self"] ["self"] (defScope st_Save_told) := ⟨rfl, rfl, rfl, by decide +kernel, rfl, by decide +kernel, by decide +kernel⟩
def df_Save_told : He.DefD := ⟨("Save", some "told"), "told", "Save.told", defArgs st_Save_told, defBody st_Save_told, defScope st_Save_told, [], []⟩
abbrev FN_Save_told (K : PySem.W.Frag) (fd : FuncData) : Prop := FunD K "told" "Save.told" (defArgs st_Save_told) (defBody st_Save_told) (defScope st_Save_told) [] [] (He.fAd K ("Save", some "told")) fd
abbrev st_carry : Stmt := top 4
theorem sc_carry : FnScope ["rooms", "slot", "taker", "many", "giver", "getter"] ["rooms", "slot", "taker", "many"] (defScope st_carry) := ⟨rfl, rfl, rfl, by decide +kernel, rfl, by decide +kernel, by decide +kernel⟩
def df_carry : He.DefD := ⟨("carry", none), "carry", "carry", defArgs st_carry, defBody st_carry, defScope st_carry, [], []⟩
abbrev FN_carry (K : PySem.W.Frag) (fd : FuncData) : Prop := FunD K "carry" "carry" (defArgs st_carry) (defBody st_carry) (defScope st_carry) [] [] (He.fAd K ("carry", none)) fd
abbrev st_Move_init : Stmt := inClass (top 5) 0
theorem sc_Move_init : FnScope ["self", "slot", "taker", "many"] ["self", "slot", "taker", "many"] (defScope st_Move_init) := ⟨rfl, rfl, rfl, by decide +kernel, rfl, by decide +kernel, by decide +kernel⟩
def df_Move_init : He.DefD := ⟨("Move", some "__init__"), "__init__", "Move.__init__", defArgs st_Move_init, defBody st_Move_init, defScope st_Move_init, [], []⟩
abbrev FN_Move_init (K : PySem.W.Frag) (fd : FuncData) : Prop := FunD K "__init__" "Move.__init__" (defArgs st_Move_init) (defBody st_Move_init) (defScope st_Move_init) [] [] (He.fAd K ("Move", some "__init__")) fd
abbrev st_Move_do : Stmt := inClass (top 5) 1
theorem sc_Move_do : FnScope ["self", "rooms"] ["self", "rooms"] (defScope st_Move_do) := ⟨rfl, rfl, rfl, by decide +kernel, rfl, by decide +kernel, by decide +kernel⟩
def df_Move_do : He.DefD := ⟨("Move", some "do"), "do", "Move.do", defArgs st_Move_do, defBody st_Move_do, defScope st_Move_do, [], []⟩
abbrev FN_Move_do (K : PySem.W.Frag) (fd : FuncData) : Prop := FunD K "do" "Move.do" (defArgs st_Move_do) (defBody st_Move_do) (defScope st_Move_do) [] [] (He.fAd K ("Move", some "do")) fd
abbrev st_Move_undo : Stmt := inClass (top 5) 2
theorem sc_Move_undo : FnScope ["self", "rooms"] ["self", "rooms"] (defScope st_Move_undo) := ⟨rfl, rfl, rfl, by decide +kernel, rfl, by decide +kernel, by decide +kernel⟩
def df_Move_undo : He.DefD := ⟨("Move", some "undo"), "undo", "Move.undo", defArgs st_Move_undo, defBody st_Move_undo, defScope st_Move_undo, [], []⟩
abbrev FN_Move_undo (K : PySem.W.Frag) (fd : FuncData) : Prop := FunD K "undo" "Move.undo" (defArgs st_Move_undo) (defBody st_Move_undo) (defScope st_Move_undo) [] [] (He.fAd K ("Move", some "undo")) fd
abbrev st_Move_told : Stmt := inClass (top 5) 3
theorem sc_Move_told : FnScope ["self"] ["self"] (defScope st_Move_told) := ⟨rfl, rfl, rfl, by decide +kernel, rfl, by decide +kernel, by decide +kernel⟩
def df_Move_told : He.DefD := ⟨("Move", some "told"), "told", "Move.told", defArgs st_Move_told, defBody st_Move_told, defScope st_Move_told, [], []⟩
abbrev FN_Move_told (K : PySem.W.Frag) (fd : FuncData) : Prop := FunD K "told" "Move.told" (defArgs st_Move_told) (defBody st_Move_told) (defScope st_Move_told) [] [] (He.fAd K ("Move", some "told")) fd
abbrev st_Note_init : Stmt := inClass (top 6) 0
theorem sc_Note_init : FnScope ["self", "slot", "number"] ["self", "slot", "number"] (defScope st_Note_init) := ⟨rfl, rfl, rfl, by decide +kernel, rfl, by decide +kernel, by decide +kernel⟩
def df_Note_init : He.DefD := ⟨("Note", some "__init__"), "__init__", "Note.__init__", defArgs st_Note_init, defBody st_Note_init, defScope st_Note_init, [], []⟩
abbrev FN_Note_init (K : PySem.W.Frag) (fd : FuncData) : Prop := FunD K "__init__" "Note.__init__" (defArgs st_Note_init) (defBody st_Note_init) (defScope st_Note_init) [] [] (He.fAd K ("Note", some "__init__")) fd
abbrev st_Note_told : Stmt := inClass (top 6) 1
theorem sc_Note_told : FnScope ["self"] ["self"] (defScope st_Note_told) := ⟨rfl, rfl, rfl, by decide +kernel, rfl, by decide +kernel, by decide +kernel⟩
def df_Note_told : He.DefD := ⟨("Note", some "told"), "told", "Note.told", defArgs st_Note_told, defBody st_Note_told, defScope st_Note_told, [], []⟩
abbrev FN_Note_told (K : PySem.W.Frag) (fd : FuncData) : Prop := FunD K "told" "Note.told" (defArgs st_Note_told) (defBody st_Note_told) (defScope st_Note_told) [] [] (He.fAd K ("Note", some "told")) fd
abbrev st_reckons : Stmt := top 10
theorem sc_reckons : FnScope ["word"] ["word"] (defScope st_reckons) := ⟨rfl, rfl, rfl, by decide +kernel, rfl, by decide +kernel, by decide +kernel⟩
def df_reckons : He.DefD := ⟨("reckons", none), "reckons", "reckons", defArgs st_reckons, defBody st_reckons, defScope st_reckons, [], []⟩
abbrev FN_reckons (K : PySem.W.Frag) (fd : FuncData) : Prop := FunD K "reckons" "reckons" (defArgs st_reckons) (defBody st_reckons) (defScope st_reckons) [] [] (He.fAd K ("reckons", none)) fd
abbrev st_takes : Stmt := top 11
theorem sc_takes : FnScope ["row", "word"] ["row"] (defScope st_takes) := ⟨rfl, rfl, rfl, by decide +kernel, rfl, by decide +kernel, by decide +kernel⟩
def df_takes : He.DefD := ⟨("takes", none), "takes", "takes", defArgs st_takes, defBody st_takes, defScope st_takes, [], []⟩
abbrev FN_takes (K : PySem.W.Frag) (fd : FuncData) : Prop := FunD K "takes" "takes" (defArgs st_takes) (defBody st_takes) (defScope st_takes) [] [] (He.fAd K ("takes", none)) fd
abbrev st_leaves : Stmt := top 12
theorem sc_leaves : FnScope ["row", "word"] ["row"] (defScope st_leaves) := ⟨rfl, rfl, rfl, by decide +kernel, rfl, by decide +kernel, by decide +kernel⟩
def df_leaves : He.DefD := ⟨("leaves", none), "leaves", "leaves", defArgs st_leaves, defBody st_leaves, defScope st_leaves, [], []⟩
abbrev FN_leaves (K : PySem.W.Frag) (fd : FuncData) : Prop := FunD K "leaves" "leaves" (defArgs st_leaves) (defBody st_leaves) (defScope st_leaves) [] [] (He.fAd K ("leaves", none)) fd
abbrev st_price : Stmt := top 13
theorem sc_price : FnScope ["row", "dear", "word"] ["row", "dear"] (defScope st_price) := ⟨rfl, rfl, rfl, by decide +kernel, rfl, by decide +kernel, by decide +kernel⟩
def df_price : He.DefD := ⟨("price", none), "price", "price", defArgs st_price, defBody st_price, defScope st_price, [.bl false], []⟩
abbrev FN_price (K : PySem.W.Frag) (fd : FuncData) : Prop := FunD K "price" "price" (defArgs st_price) (defBody st_price) (defScope st_price) [.bl false] [] (He.fAd K ("price", none)) fd
abbrev st_shared : Stmt := top 15
theorem sc_shared : FnScope ["word", "one", "other", "parts"] ["word", "one", "other"] (defScope st_shared) := ⟨rfl, rfl, rfl, by decide +kernel, rfl, by decide +kernel, by decide +kernel⟩
def df_shared : He.DefD := ⟨("shared", none), "shared", "shared", defArgs st_shared, defBody st_shared, defScope st_shared, [], []⟩
abbrev FN_shared (K : PySem.W.Frag) (fd : FuncData) : Prop := FunD K "shared" "shared" (defArgs st_shared) (defBody st_shared) (defScope st_shared) [] [] (He.fAd K ("shared", none)) fd
abbrev st_moved : Stmt := top 16
theorem sc_moved : FnScope ["word", "one", "other"] ["word", "one", "other"] (defScope st_moved) := ⟨rfl, rfl, rfl, by decide +kernel, rfl, by decide +kernel, by decide +kernel⟩
def df_moved : He.DefD := ⟨("moved", none), "moved", "moved", defArgs st_moved, defBody st_moved, defScope st_moved, [], []⟩
abbrev FN_moved (K : PySem.W.Frag) (fd : FuncData) : Prop := FunD K "moved" "moved" (defArgs st_moved) (defBody st_moved) (defScope st_moved) [] [] (He.fAd K ("moved", none)) fd
abbrev st_reckon : Stmt := top 17
theorem sc_reckon : FnScope ["word", "one", "other"] ["word", "one", "other"] (defScope st_reckon) := ⟨rfl, rfl, rfl, by decide +kernel, rfl, by decide +kernel, by decide +kernel⟩
def df_reckon : He.DefD := ⟨("reckon", none), "reckon", "reckon", defArgs st_reckon, defBody st_reckon, defScope st_reckon, [], []⟩
abbrev FN_reckon (K : PySem.W.Frag) (fd : FuncData) : Prop := FunD K "reckon" "reckon" (defArgs st_reckon) (defBody st_reckon) (defScope st_reckon) [] [] (He.fAd K ("reckon", none)) fd
abbrev st_Frame_init : Stmt := inClass (top 20) 0
theorem sc_Frame_init : FnScope ["self", "kind", "who", "whose", "caller", "coin", "word"] ["self", "kind", "who", "whose", "caller", "coin", "word"] (defScope st_Frame_init) := ⟨rfl, rfl, rfl, by decide +kernel, rfl, by decide +kernel, by decide +kernel⟩
def df_Frame_init : He.DefD := ⟨("Frame", some "__init__"), "__init__", "Frame.__init__", defArgs st_Frame_init, defBody st_Frame_init, defScope st_Frame_init, [], []⟩
abbrev FN_Frame_init (K : PySem.W.Frag) (fd : FuncData) : Prop := FunD K "__init__" "Frame.__init__" (defArgs st_Frame_init) (defBody st_Frame_init) (defScope st_Frame_init) [] [] (He.fAd K ("Frame", some "__init__")) fd
abbrev st_Frame_finish : Stmt := inClass (top 20) 1
theorem sc_Frame_finish : FnScope ["self", "end", "answer"] ["self", "end", "answer"] (defScope st_Frame_finish) := ⟨rfl, rfl, rfl, by decide +kernel, rfl, by decide +kernel, by decide +kernel⟩
def df_Frame_finish : He.DefD := ⟨("Frame", some "finish"), "finish", "Frame.finish", defArgs st_Frame_finish, defBody st_Frame_finish, defScope st_Frame_finish, [], []⟩
abbrev FN_Frame_finish (K : PySem.W.Frag) (fd : FuncData) : Prop := FunD K "finish" "Frame.finish" (defArgs st_Frame_finish) (defBody st_Frame_finish) (defScope st_Frame_finish) [] [] (He.fAd K ("Frame", some "finish")) fd
abbrev st_Frame_is_short : Stmt := inClass (top 20) 2
theorem sc_Frame_is_short : FnScope ["self", "row"] ["self", "row"] (defScope st_Frame_is_short) := ⟨rfl, rfl, rfl, by decide +kernel, rfl, by decide +kernel, by decide +kernel⟩
def df_Frame_is_short : He.DefD := ⟨("Frame", some "is_short"), "is_short", "Frame.is_short", defArgs st_Frame_is_short, defBody st_Frame_is_short, defScope st_Frame_is_short, [], []⟩
abbrev FN_Frame_is_short (K : PySem.W.Frag) (fd : FuncData) : Prop := FunD K "is_short" "Frame.is_short" (defArgs st_Frame_is_short) (defBody st_Frame_is_short) (defScope st_Frame_is_short) [] [] (He.fAd K ("Frame", some "is_short")) fd
abbrev st_Frame_is_full : Stmt := inClass (top 20) 3
theorem sc_Frame_is_full : FnScope ["self", "row"] ["self", "row"] (defScope st_Frame_is_full) := ⟨rfl, rfl, rfl, by decide +kernel, rfl, by decide +kernel, by decide +kernel⟩
def df_Frame_is_full : He.DefD := ⟨("Frame", some "is_full"), "is_full", "Frame.is_full", defArgs st_Frame_is_full, defBody st_Frame_is_full, defScope st_Frame_is_full, [], []⟩
abbrev FN_Frame_is_full (K : PySem.W.Frag) (fd : FuncData) : Prop := FunD K "is_full" "Frame.is_full" (defArgs st_Frame_is_full) (defBody st_Frame_is_full) (defScope st_Frame_is_full) [] [] (He.fAd K ("Frame", some "is_full")) fd
abbrev st_Frame_tree : Stmt := inClass (top 20) 4
theorem sc_Frame_tree : FnScope ["self", "asked"] ["self"] (defScope st_Frame_tree) := ⟨rfl, rfl, rfl, by decide +kernel, rfl, by decide +kernel, by decide +kernel⟩
def df_Frame_tree : He.DefD := ⟨("Frame", some "tree"), "tree", "Frame.tree", defArgs st_Frame_tree, defBody st_Frame_tree, defScope st_Frame_tree, [], []⟩
abbrev FN_Frame_tree (K : PySem.W.Frag) (fd : FuncData) : Prop := FunD K "tree" "Frame.tree" (defArgs st_Frame_tree) (defBody st_Frame_tree) (defScope st_Frame_tree) [] [] (He.fAd K ("Frame", some "tree")) fd
abbrev st_Frame_place : Stmt := inClass (top 20) 5
theorem sc_Frame_place : FnScope ["self", "word"] ["self", "word"] (defScope st_Frame_place) := ⟨rfl, rfl, rfl, by decide +kernel, rfl, by decide +kernel, by decide +kernel⟩
def df_Frame_place : He.DefD := ⟨("Frame", some "place"), "place", "Frame.place", defArgs st_Frame_place, defBody st_Frame_place, defScope st_Frame_place, [], []⟩
abbrev FN_Frame_place (K : PySem.W.Frag) (fd : FuncData) : Prop := FunD K "place" "Frame.place" (defArgs st_Frame_place) (defBody st_Frame_place) (defScope st_Frame_place) [] [] (He.fAd K ("Frame", some "place")) fd
abbrev st_Frame_move_about : Stmt := inClass (top 20) 6
theorem sc_Frame_move_about : FnScope ["self", "row", "word", "deep", "top"] ["self", "row"] (defScope st_Frame_move_about) := ⟨rfl, rfl, rfl, by decide +kernel, rfl, by decide +kernel, by decide +kernel⟩
def df_Frame_move_about : He.DefD := ⟨("Frame", some "move_about"), "move_about", "Frame.move_about", defArgs st_Frame_move_about, defBody st_Frame_move_about, defScope st_Frame_move_about, [], []⟩
abbrev FN_Frame_move_about (K : PySem.W.Frag) (fd : FuncData) : Prop := FunD K "move_about" "Frame.move_about" (defArgs st_Frame_move_about) (defBody st_Frame_move_about) (defScope st_Frame_move_about) [] [] (He.fAd K ("Frame", some "move_about")) fd
abbrev st_Frame_lead : Stmt := inClass (top 20) 7
theorem sc_Frame_lead : FnScope ["self", "row", "word"] ["self", "row"] (defScope st_Frame_lead) := ⟨rfl, rfl, rfl, by decide +kernel, rfl, by decide +kernel, by decide +kernel⟩
def df_Frame_lead : He.DefD := ⟨("Frame", some "lead"), "lead", "Frame.lead", defArgs st_Frame_lead, defBody st_Frame_lead, defScope st_Frame_lead, [], []⟩
abbrev FN_Frame_lead (K : PySem.W.Frag) (fd : FuncData) : Prop := FunD K "lead" "Frame.lead" (defArgs st_Frame_lead) (defBody st_Frame_lead) (defScope st_Frame_lead) [] [] (He.fAd K ("Frame", some "lead")) fd
abbrev st_Frame_plain_row : Stmt := inClass (top 20) 8
theorem sc_Frame_plain_row : FnScope ["self", "row", "word", "other", "one"] ["self", "row"] (defScope st_Frame_plain_row) := ⟨rfl, rfl, rfl, by decide +kernel, rfl, by decide +kernel, by decide +kernel⟩
def df_Frame_plain_row : He.DefD := ⟨("Frame", some "plain_row"), "plain_row", "Frame.plain_row", defArgs st_Frame_plain_row, defBody st_Frame_plain_row, defScope st_Frame_plain_row, [], []⟩
abbrev FN_Frame_plain_row (K : PySem.W.Frag) (fd : FuncData) : Prop := FunD K "plain_row" "Frame.plain_row" (defArgs st_Frame_plain_row) (defBody st_Frame_plain_row) (defScope st_Frame_plain_row) [] [] (He.fAd K ("Frame", some "plain_row")) fd
abbrev st_is_change : Stmt := top 23
theorem sc_is_change : FnScope ["row", "stack"] ["row", "stack"] (defScope st_is_change) := ⟨rfl, rfl, rfl, by decide +kernel, rfl, by decide +kernel, by decide +kernel⟩
def df_is_change : He.DefD := ⟨("is_change", none), "is_change", "is_change", defArgs st_is_change, defBody st_is_change, defScope st_is_change, [], []⟩
abbrev FN_is_change (K : PySem.W.Frag) (fd : FuncData) : Prop := FunD K "is_change" "is_change" (defArgs st_is_change) (defBody st_is_change) (defScope st_is_change) [] [] (He.fAd K ("is_change", none)) fd
abbrev st_Machine_init : Stmt := inClass (top 24) 0
theorem sc_Machine_init : FnScope ["self", "rooms", "journal"] ["self", "rooms", "journal"] (defScope st_Machine_init) := ⟨rfl, rfl, rfl, by decide +kernel, rfl, by decide +kernel, by decide +kernel⟩
def df_Machine_init : He.DefD := ⟨("Machine", some "__init__"), "__init__", "Machine.__init__", defArgs st_Machine_init, defBody st_Machine_init, defScope st_Machine_init, [], []⟩
abbrev FN_Machine_init (K : PySem.W.Frag) (fd : FuncData) : Prop := FunD K "__init__" "Machine.__init__" (defArgs st_Machine_init) (defBody st_Machine_init) (defScope st_Machine_init) [] [] (He.fAd K ("Machine", some "__init__")) fd
abbrev st_Machine_account : Stmt := inClass (top 24) 1
theorem sc_Machine_account : FnScope ["self", "slot"] ["self", "slot"] (defScope st_Machine_account) := ⟨rfl, rfl, rfl, by decide +kernel, rfl, by decide +kernel, by decide +kernel⟩
def df_Machine_account : He.DefD := ⟨("Machine", some "account"), "account", "Machine.account", defArgs st_Machine_account, defBody st_Machine_account, defScope st_Machine_account, [], []⟩
abbrev FN_Machine_account (K : PySem.W.Frag) (fd : FuncData) : Prop := FunD K "account" "Machine.account" (defArgs st_Machine_account) (defBody st_Machine_account) (defScope st_Machine_account) [] [] (He.fAd K ("Machine", some "account")) fd
abbrev st_Machine_record : Stmt := inClass (top 24) 2
theorem sc_Machine_record : FnScope ["self", "frame", "deed"] ["self", "frame", "deed"] (defScope st_Machine_record) := ⟨rfl, rfl, rfl, by decide +kernel, rfl, by decide +kernel, by decide +kernel⟩
def df_Machine_record : He.DefD := ⟨("Machine", some "record"), "record", "Machine.record", defArgs st_Machine_record, defBody st_Machine_record, defScope st_Machine_record, [], []⟩
abbrev FN_Machine_record (K : PySem.W.Frag) (fd : FuncData) : Prop := FunD K "record" "Machine.record" (defArgs st_Machine_record) (defBody st_Machine_record) (defScope st_Machine_record) [] [] (He.fAd K ("Machine", some "record")) fd
abbrev st_Machine_cost : Stmt := inClass (top 24) 3
theorem sc_Machine_cost : FnScope ["self", "frame", "row", "dear", "there"] ["self", "frame", "row"] (defScope st_Machine_cost) := ⟨rfl, rfl, rfl, by decide +kernel, rfl, by decide +kernel, by decide +kernel⟩
def df_Machine_cost : He.DefD := ⟨("Machine", some "cost"), "cost", "Machine.cost", defArgs st_Machine_cost, defBody st_Machine_cost, defScope st_Machine_cost, [], []⟩
abbrev FN_Machine_cost (K : PySem.W.Frag) (fd : FuncData) : Prop := FunD K "cost" "Machine.cost" (defArgs st_Machine_cost) (defBody st_Machine_cost) (defScope st_Machine_cost) [] [] (He.fAd K ("Machine", some "cost")) fd
abbrev st_Machine_fault : Stmt := inClass (top 24) 4
theorem sc_Machine_fault : FnScope ["self", "frame", "row"] ["self", "frame", "row"] (defScope st_Machine_fault) := ⟨rfl, rfl, rfl, by decide +kernel, rfl, by decide +kernel, by decide +kernel⟩
def df_Machine_fault : He.DefD := ⟨("Machine", some "fault"), "fault", "Machine.fault", defArgs st_Machine_fault, defBody st_Machine_fault, defScope st_Machine_fault, [], []⟩
abbrev FN_Machine_fault (K : PySem.W.Frag) (fd : FuncData) : Prop := FunD K "fault" "Machine.fault" (defArgs st_Machine_fault) (defBody st_Machine_fault) (defScope st_Machine_fault) [] [] (He.fAd K ("Machine", some "fault")) fd
abbrev st_Machine_unbegun : Stmt := inClass (top 24) 5
theorem sc_Machine_unbegun : FnScope ["self", "frame", "inner", "slot"] ["self", "frame", "inner", "slot"] (defScope st_Machine_unbegun) := ⟨rfl, rfl, rfl, by decide +kernel, rfl, by decide +kernel, by decide +kernel⟩
def df_Machine_unbegun : He.DefD := ⟨("Machine", some "unbegun"), "unbegun", "Machine.unbegun", defArgs st_Machine_unbegun, defBody st_Machine_unbegun, defScope st_Machine_unbegun, [], []⟩
abbrev FN_Machine_unbegun (K : PySem.W.Frag) (fd : FuncData) : Prop := FunD K "unbegun" "Machine.unbegun" (defArgs st_Machine_unbegun) (defBody st_Machine_unbegun) (defScope st_Machine_unbegun) [] [] (He.fAd K ("Machine", some "unbegun")) fd
abbrev st_Machine_inner_call : Stmt := inClass (top 24) 6
theorem sc_Machine_inner_call : FnScope ["self", "frame", "kind", "word", "asked", "coin", "slot", "inner"] ["self", "frame", "kind"] (defScope st_Machine_inner_call) := ⟨rfl, rfl, rfl, by decide +kernel, rfl, by decide +kernel, by decide +kernel⟩
def df_Machine_inner_call : He.DefD := ⟨("Machine", some "inner_call"), "inner_call", "Machine.inner_call", defArgs st_Machine_inner_call, defBody st_Machine_inner_call, defScope st_Machine_inner_call, [], []⟩
abbrev FN_Machine_inner_call (K : PySem.W.Frag) (fd : FuncData) : Prop := FunD K "inner_call" "Machine.inner_call" (defArgs st_Machine_inner_call) (defBody st_Machine_inner_call) (defScope st_Machine_inner_call) [] [] (He.fAd K ("Machine", some "inner_call")) fd
abbrev st_Machine_begin : Stmt := inClass (top 24) 7
theorem sc_Machine_begin : FnScope ["self", "frame", "kind", "inner", "slot", "asked", "end"] ["self", "frame", "kind"] (defScope st_Machine_begin) := ⟨rfl, rfl, rfl, by decide +kernel, rfl, by decide +kernel, by decide +kernel⟩
def df_Machine_begin : He.DefD := ⟨("Machine", some "begin"), "begin", "Machine.begin", defArgs st_Machine_begin, defBody st_Machine_begin, defScope st_Machine_begin, [], []⟩
abbrev FN_Machine_begin (K : PySem.W.Frag) (fd : FuncData) : Prop := FunD K "begin" "Machine.begin" (defArgs st_Machine_begin) (defBody st_Machine_begin) (defScope st_Machine_begin) [] [] (He.fAd K ("Machine", some "begin")) fd
abbrev st_Machine_done : Stmt := inClass (top 24) 8
theorem sc_Machine_done : FnScope ["self", "frame", "row", "word", "stack", "there", "new", "place"] ["self", "frame", "row"] (defScope st_Machine_done) := ⟨rfl, rfl, rfl, by decide +kernel, rfl, by decide +kernel, by decide +kernel⟩
def df_Machine_done : He.DefD := ⟨("Machine", some "done"), "done", "Machine.done", defArgs st_Machine_done, defBody st_Machine_done, defScope st_Machine_done, [], []⟩
abbrev FN_Machine_done (K : PySem.W.Frag) (fd : FuncData) : Prop := FunD K "done" "Machine.done" (defArgs st_Machine_done) (defBody st_Machine_done) (defScope st_Machine_done) [] [] (He.fAd K ("Machine", some "done")) fd
abbrev st_Machine_step : Stmt := inClass (top 24) 9
theorem sc_Machine_step : FnScope ["self", "frame", "program", "row", "end"] ["self", "frame"] (defScope st_Machine_step) := ⟨rfl, rfl, rfl, by decide +kernel, rfl, by decide +kernel, by decide +kernel⟩
def df_Machine_step : He.DefD := ⟨("Machine", some "step"), "step", "Machine.step", defArgs st_Machine_step, defBody st_Machine_step, defScope st_Machine_step, [], []⟩
abbrev FN_Machine_step (K : PySem.W.Frag) (fd : FuncData) : Prop := FunD K "step" "Machine.step" (defArgs st_Machine_step) (defBody st_Machine_step) (defScope st_Machine_step) [] [] (He.fAd K ("Machine", some "step")) fd
abbrev st_Machine_go : Stmt := inClass (top 24) 10
theorem sc_Machine_go : FnScope ["self", "frame", "mark"] ["self", "frame"] (defScope st_Machine_go) := ⟨rfl, rfl, rfl, by decide +kernel, rfl, by decide +kernel, by decide +kernel⟩
def df_Machine_go : He.DefD := ⟨("Machine", some "go"), "go", "Machine.go", defArgs st_Machine_go, defBody st_Machine_go, defScope st_Machine_go, [], []⟩
abbrev FN_Machine_go (K : PySem.W.Frag) (fd : FuncData) : Prop := FunD K "go" "Machine.go" (defArgs st_Machine_go) (defBody st_Machine_go) (defScope st_Machine_go) [] [] (He.fAd K ("Machine", some "go")) fd
abbrev st_enter : Stmt := top 25
theorem sc_enter : FnScope ["rooms", "journal", "caller", "who", "coin", "word", "given", "frame"] ["rooms", "journal", "caller", "who", "coin", "word", "given"] (defScope st_enter) := ⟨rfl, rfl, rfl, by decide +kernel, rfl, by decide +kernel, by decide +kernel⟩
def df_enter : He.DefD := ⟨("enter", none), "enter", "enter", defArgs st_enter, defBody st_enter, defScope st_enter, [], []⟩
abbrev FN_enter (K : PySem.W.Frag) (fd : FuncData) : Prop := FunD K "enter" "enter" (defArgs st_enter) (defBody st_enter) (defScope st_enter) [] [] (He.fAd K ("enter", none)) fd
abbrev st_Account_init : Stmt := inClass (top 27) 0
theorem sc_Account_init : FnScope ["self", "coin", "purse", "program"] ["self", "coin", "purse", "program"] (defScope st_Account_init) := ⟨rfl, rfl, rfl, by decide +kernel, rfl, by decide +kernel, by decide +kernel⟩
def df_Account_init : He.DefD := ⟨("Account", some "__init__"), "__init__", "Account.__init__", defArgs st_Account_init, defBody st_Account_init, defScope st_Account_init, [], []⟩
abbrev FN_Account_init (K : PySem.W.Frag) (fd : FuncData) : Prop := FunD K "__init__" "Account.__init__" (defArgs st_Account_init) (defBody st_Account_init) (defScope st_Account_init) [] [] (He.fAd K ("Account", some "__init__")) fd
abbrev st_Account_loaded : Stmt := inClass (top 27) 1
theorem sc_Account_loaded : FnScope ["self", "place"] ["self", "place"] (defScope st_Account_loaded) := ⟨rfl, rfl, rfl, by decide +kernel, rfl, by decide +kernel, by decide +kernel⟩
def df_Account_loaded : He.DefD := ⟨("Account", some "loaded"), "loaded", "Account.loaded", defArgs st_Account_loaded, defBody st_Account_loaded, defScope st_Account_loaded, [], []⟩
abbrev FN_Account_loaded (K : PySem.W.Frag) (fd : FuncData) : Prop := FunD K "loaded" "Account.loaded" (defArgs st_Account_loaded) (defBody st_Account_loaded) (defScope st_Account_loaded) [] [] (He.fAd K ("Account", some "loaded")) fd
abbrev st_Account_keep : Stmt := inClass (top 27) 2
theorem sc_Account_keep : FnScope ["self", "place", "number"] ["self", "place", "number"] (defScope st_Account_keep) := ⟨rfl, rfl, rfl, by decide +kernel, rfl, by decide +kernel, by decide +kernel⟩
def df_Account_keep : He.DefD := ⟨("Account", some "keep"), "keep", "Account.keep", defArgs st_Account_keep, defBody st_Account_keep, defScope st_Account_keep, [], []⟩
abbrev FN_Account_keep (K : PySem.W.Frag) (fd : FuncData) : Prop := FunD K "keep" "Account.keep" (defArgs st_Account_keep) (defBody st_Account_keep) (defScope st_Account_keep) [] [] (He.fAd K ("Account", some "keep")) fd
abbrev st_Journal_init : Stmt := inClass (top 29) 0
theorem sc_Journal_init : FnScope ["self", "rooms"] ["self", "rooms"] (defScope st_Journal_init) := ⟨rfl, rfl, rfl, by decide +kernel, rfl, by decide +kernel, by decide +kernel⟩
def df_Journal_init : He.DefD := ⟨("Journal", some "__init__"), "__init__", "Journal.__init__", defArgs st_Journal_init, defBody st_Journal_init, defScope st_Journal_init, [], []⟩
abbrev FN_Journal_init (K : PySem.W.Frag) (fd : FuncData) : Prop := FunD K "__init__" "Journal.__init__" (defArgs st_Journal_init) (defBody st_Journal_init) (defScope st_Journal_init) [] [] (He.fAd K ("Journal", some "__init__")) fd
abbrev st_Journal_write : Stmt := inClass (top 29) 1
theorem sc_Journal_write : FnScope ["self", "deed"] ["self", "deed"] (defScope st_Journal_write) := ⟨rfl, rfl, rfl, by decide +kernel, rfl, by decide +kernel, by decide +kernel⟩
def df_Journal_write : He.DefD := ⟨("Journal", some "write"), "write", "Journal.write", defArgs st_Journal_write, defBody st_Journal_write, defScope st_Journal_write, [], []⟩
abbrev FN_Journal_write (K : PySem.W.Frag) (fd : FuncData) : Prop := FunD K "write" "Journal.write" (defArgs st_Journal_write) (defBody st_Journal_write) (defScope st_Journal_write) [] [] (He.fAd K ("Journal", some "write")) fd
abbrev st_Journal_mark : Stmt := inClass (top 29) 2
theorem sc_Journal_mark : FnScope ["self"] ["self"] (defScope st_Journal_mark) := ⟨rfl, rfl, rfl, by decide +kernel, rfl, by decide +kernel, by decide +kernel⟩
def df_Journal_mark : He.DefD := ⟨("Journal", some "mark"), "mark", "Journal.mark", defArgs st_Journal_mark, defBody st_Journal_mark, defScope st_Journal_mark, [], []⟩
abbrev FN_Journal_mark (K : PySem.W.Frag) (fd : FuncData) : Prop := FunD K "mark" "Journal.mark" (defArgs st_Journal_mark) (defBody st_Journal_mark) (defScope st_Journal_mark) [] [] (He.fAd K ("Journal", some "mark")) fd
abbrev st_Journal_back : Stmt := inClass (top 29) 3
theorem sc_Journal_back : FnScope ["self", "mark", "deed"] ["self", "mark"] (defScope st_Journal_back) := ⟨rfl, rfl, rfl, by decide +kernel, rfl, by decide +kernel, by decide +kernel⟩
def df_Journal_back : He.DefD := ⟨("Journal", some "back"), "back", "Journal.back", defArgs st_Journal_back, defBody st_Journal_back, defScope st_Journal_back, [], []⟩
abbrev FN_Journal_back (K : PySem.W.Frag) (fd : FuncData) : Prop := FunD K "back" "Journal.back" (defArgs st_Journal_back) (defBody st_Journal_back) (defScope st_Journal_back) [] [] (He.fAd K ("Journal", some "back")) fd
abbrev st_Journal_told : Stmt := inClass (top 29) 4
theorem sc_Journal_told : FnScope ["self", "deed"] ["self"] (defScope st_Journal_told) := ⟨rfl, rfl, rfl, by decide +kernel, rfl, by decide +kernel, by decide +kernel⟩
def df_Journal_told : He.DefD := ⟨("Journal", some "told"), "told", "Journal.told", defArgs st_Journal_told, defBody st_Journal_told, defScope st_Journal_told, [], []⟩
abbrev FN_Journal_told (K : PySem.W.Frag) (fd : FuncData) : Prop := FunD K "told" "Journal.told" (defArgs st_Journal_told) (defBody st_Journal_told) (defScope st_Journal_told) [] [] (He.fAd K ("Journal", some "told")) fd
abbrev st_l_cell_at : Stmt := top 31
theorem sc_l_cell_at : FnScope ["_law_script", "_law_k"] ["_law_script", "_law_k"] (defScope st_l_cell_at) := ⟨rfl, rfl, rfl, by decide +kernel, rfl, by decide +kernel, by decide +kernel⟩
def df_l_cell_at : He.DefD := ⟨("_law_cell_at", none), "_law_cell_at", "_law_cell_at", defArgs st_l_cell_at, defBody st_l_cell_at, defScope st_l_cell_at, [], []⟩
abbrev FN_l_cell_at (K : PySem.W.Frag) (fd : FuncData) : Prop := FunD K "_law_cell_at" "_law_cell_at" (defArgs st_l_cell_at) (defBody st_l_cell_at) (defScope st_l_cell_at) [] [] (He.fAd K ("_law_cell_at", none)) fd
abbrev st_l_alike : Stmt := top 32
theorem sc_l_alike : FnScope ["_law_found", "_law_due", "_law_k"] ["_law_found", "_law_due"] (defScope st_l_alike) := ⟨rfl, rfl, rfl, by decide +kernel, rfl, by decide +kernel, by decide +kernel⟩
def df_l_alike : He.DefD := ⟨("_law_alike", none), "_law_alike", "_law_alike", defArgs st_l_alike, defBody st_l_alike, defScope st_l_alike, [], []⟩
abbrev FN_l_alike (K : PySem.W.Frag) (fd : FuncData) : Prop := FunD K "_law_alike" "_law_alike" (defArgs st_l_alike) (defBody st_l_alike) (defScope st_l_alike) [] [] (He.fAd K ("_law_alike", none)) fd
abbrev st_l_program : Stmt := top 33
theorem sc_l_program : FnScope ["_law_over", "_law_number", "_law_pairs", "_law_last", "_law_rows", "_law_k", "_law_back"] ["_law_over", "_law_number", "_law_pairs", "_law_last"] (defScope st_l_program) := ⟨rfl, rfl, rfl, by decide +kernel, rfl, by decide +kernel, by decide +kernel⟩
def df_l_program : He.DefD := ⟨("_law_program", none), "_law_program", "_law_program", defArgs st_l_program, defBody st_l_program, defScope st_l_program, [], []⟩
abbrev FN_l_program (K : PySem.W.Frag) (fd : FuncData) : Prop := FunD K "_law_program" "_law_program" (defArgs st_l_program) (defBody st_l_program) (defScope st_l_program) [] [] (He.fAd K ("_law_program", none)) fd
abbrev st_l_gone : Stmt := top 34
theorem sc_l_gone : FnScope ["_law_over", "_law_number", "_law_pairs", "_law_most", "_law_gone_here", "_law_left", "_law_turn", "_law_at", "_law_k"] ["_law_over", "_law_number", "_law_pairs", "_law_most"] (defScope st_l_gone) := ⟨rfl, rfl, rfl, by decide +kernel, rfl, by decide +kernel, by decide +kernel⟩
def df_l_gone : He.DefD := ⟨("_law_gone", none), "_law_gone", "_law_gone", defArgs st_l_gone, defBody st_l_gone, defScope st_l_gone, [], []⟩
abbrev FN_l_gone (K : PySem.W.Frag) (fd : FuncData) : Prop := FunD K "_law_gone" "_law_gone" (defArgs st_l_gone) (defBody st_l_gone) (defScope st_l_gone) [] [] (He.fAd K ("_law_gone", none)) fd
abbrev st_law : Stmt := top 35
theorem sc_law : FnScope ["_law_script", "_law_over", "_law_pairs", "_law_number", "_law_given", "_law_last", "_law_rows", "_law_gone_here", "_law_behind", "_law_end", "_law_rooms", "_law_found"] ["_law_script"] (defScope st_law) := ⟨rfl, rfl, rfl, by decide +kernel, rfl, by decide +kernel, by decide +kernel⟩
def df_law : He.DefD := ⟨("law", none), "law", "law", defArgs st_law, defBody st_law, defScope st_law, [], []⟩
abbrev FN_law (K : PySem.W.Frag) (fd : FuncData) : Prop := FunD K "law" "law" (defArgs st_law) (defBody st_law) (defScope st_law) [] [] (He.fAd K ("law", none)) fd
abbrev st_Note_do : Stmt := inClass (top 2) 0
theorem sc_Note_do : FnScope ["self", "rooms"] ["self", "rooms"] (defScope st_Note_do) := ⟨rfl, rfl, rfl, by decide +kernel, rfl, by decide +kernel, by decide +kernel⟩
def df_Note_do : He.DefD := ⟨("Note", some "do"), "do", "Deed.do", defArgs st_Note_do, defBody st_Note_do, defScope st_Note_do, [], []⟩
abbrev FN_Note_do (K : PySem.W.Frag) (fd : FuncData) : Prop := FunD K "do" "Deed.do" (defArgs st_Note_do) (defBody st_Note_do) (defScope st_Note_do) [] [] (He.fAd K ("Note", some "do")) fd
abbrev st_Note_undo : Stmt := inClass (top 2) 1
theorem sc_Note_undo : FnScope ["self", "rooms"] ["self", "rooms"] (defScope st_Note_undo) := ⟨rfl, rfl, rfl, by decide +kernel, rfl, by decide +kernel, by decide +kernel⟩
def df_Note_undo : He.DefD := ⟨("Note", some "undo"), "undo", "Deed.undo", defArgs st_Note_undo, defBody st_Note_undo, defScope st_Note_undo, [], []⟩
abbrev FN_Note_undo (K : PySem.W.Frag) (fd : FuncData) : Prop := FunD K "undo" "Deed.undo" (defArgs st_Note_undo) (defBody st_Note_undo) (defScope st_Note_undo) [] [] (He.fAd K ("Note", some "undo")) fd
def dfs : List He.DefD := [df_Deed_do, df_Deed_undo, df_Deed_told, df_Save_init, df_Save_do, df_Save_undo, df_Save_told, df_carry, df_Move_init, df_Move_do, df_Move_undo, df_Move_told, df_Note_init, df_Note_told, df_reckons, df_takes, df_leaves, df_price, df_shared, df_moved, df_reckon, df_Frame_init, df_Frame_finish, df_Frame_is_short, df_Frame_is_full, df_Frame_tree, df_Frame_place, df_Frame_move_about, df_Frame_lead, df_Frame_plain_row, df_is_change, df_Machine_init, df_Machine_account, df_Machine_record, df_Machine_cost, df_Machine_fault, df_Machine_unbegun, df_Machine_inner_call, df_Machine_begin, df_Machine_done, df_Machine_step, df_Machine_go, df_enter, df_Account_init, df_Account_loaded, df_Account_keep, df_Journal_init, df_Journal_write, df_Journal_mark, df_Journal_back, df_Journal_told, df_l_cell_at, df_l_alike, df_l_program, df_l_gone, df_law, df_Note_do, df_Note_undo]
def fas : List He.Fa := [.free "bool", .free "divmod", .free "int", .free "isinstance", .free "len", .free "list", .free "min", .free "range", .free "str", .free "tuple", .glo "carry", .glo "reckons", .glo "takes", .glo "leaves", .glo "price", .glo "shared", .glo "moved", .glo "reckon", .glo "is_change", .glo "enter", .glo "_law_cell_at", .glo "_law_alike", .glo "_law_program", .glo "_law_gone", .glo "law", .glo "Account", .glo "Frame", .glo "Journal", .glo "Machine", .glo "Move", .glo "Note", .glo "Save", .int "DEEP" 8, .int "STACK" 24, .int "WIDE" 18446744073709551616, .glo "WORDS", .cls "Account", .cls "Deed", .cls "Frame", .cls "Journal", .cls "Machine", .cls "Move", .cls "Note", .cls "Save", .noat "Save" "slot", .noat "Save" "spot", .noat "Save" "old", .noat "Save" "new", .noat "Move" "slot", .noat "Move" "taker", .noat "Move" "many", .noat "Note" "slot", .noat "Note" "number", .noat "Frame" "kind", .noat "Frame" "who", .noat "Frame" "whose", .noat "Frame" "caller", .noat "Frame" "coin", .noat "Frame" "word", .noat "Frame" "given", .noat "Frame" "depth", .noat "Frame" "still", .noat "Frame" "stack", .noat "Frame" "at", .noat "Frame" "used", .noat "Frame" "steps", .noat "Frame" "end", .noat "Frame" "answer", .noat "Machine" "rooms", .noat "Machine" "journal", .noat "Account" "coin", .noat "Account" "purse", .noat "Account" "count", .noat "Account" "program", .noat "Account" "store", .noat "Journal" "rooms", .noat "Journal" "kept", .meth "Deed" "do", .meth "Deed" "undo", .meth "Deed" "told", .mkr "Save", .meth "Save" "do", .meth "Save" "undo", .meth "Save" "told", .mkr "Move", .meth "Move" "do", .meth "Move" "undo", .meth "Move" "told", .mkr "Note", .meth "Note" "told", .mkr "Frame", .meth "Frame" "finish", .meth "Frame" "is_short", .meth "Frame" "is_full", .meth "Frame" "tree", .meth "Frame" "place", .meth "Frame" "move_about", .meth "Frame" "lead", .meth "Frame" "plain_row", .mkr "Machine", .meth "Machine" "account", .meth "Machine" "record", .meth "Machine" "cost", .meth "Machine" "fault", .meth "Machine" "unbegun", .meth "Machine" "inner_call", .meth "Machine" "begin", .meth "Machine" "done", .meth "Machine" "step", .meth "Machine" "go", .mkr "Account", .meth "Account" "loaded", .meth "Account" "keep", .mkr "Journal", .meth "Journal" "write", .meth "Journal" "mark", .meth "Journal" "back", .meth "Journal" "told", .meth "Note" "do", .meth "Note" "undo"]
def exb (K : PySem.W.Frag) : Bool := tupZ K "WORDS" [.str "push", .str "drop", .str "copy", .str "swap", .str "add", .str "minus", .str "times", .str "over", .str "rest", .str "below", .str "same", .str "both", .str "either", .str "unlike", .str "up", .str "down", .str "jump", .str "jumpif", .str "load", .str "save", .str "me", .str "from", .str "sent", .str "word", .str "coin", .str "note", .str "call", .str "borrow", .str "look", .str "give", .str "fail"]
structure HF (K : PySem.W.Frag) (mg : Str → Option Value) : Prop where
  b_bool : mg "bool" = none
  b_divmod : mg "divmod" = none
  b_int : mg "int" = none
  b_isinstance : mg "isinstance" = none
  b_len : mg "len" = none
  b_list : mg "list" = none
  b_min : mg "min" = none
  b_range : mg "range" = none
  b_str : mg "str" = none
  b_tuple : mg "tuple" = none
  g_carry : mg "carry" = some (.ref (He.fAd K ("carry", none)))
  g_reckons : mg "reckons" = some (.ref (He.fAd K ("reckons", none)))
  g_takes : mg "takes" = some (.ref (He.fAd K ("takes", none)))
  g_leaves : mg "leaves" = some (.ref (He.fAd K ("leaves", none)))
  g_price : mg "price" = some (.ref (He.fAd K ("price", none)))
  g_shared : mg "shared" = some (.ref (He.fAd K ("shared", none)))
  g_moved : mg "moved" = some (.ref (He.fAd K ("moved", none)))
  g_reckon : mg "reckon" = some (.ref (He.fAd K ("reckon", none)))
  g_is_change : mg "is_change" = some (.ref (He.fAd K ("is_change", none)))
  g_enter : mg "enter" = some (.ref (He.fAd K ("enter", none)))
  g__law_cell_at : mg "_law_cell_at" = some (.ref (He.fAd K ("_law_cell_at", none)))
  g__law_alike : mg "_law_alike" = some (.ref (He.fAd K ("_law_alike", none)))
  g__law_program : mg "_law_program" = some (.ref (He.fAd K ("_law_program", none)))
  g__law_gone : mg "_law_gone" = some (.ref (He.fAd K ("_law_gone", none)))
  g_law : mg "law" = some (.ref (He.fAd K ("law", none)))
  g_Account : mg "Account" = some (.ref (ca K "Account"))
  g_Frame : mg "Frame" = some (.ref (ca K "Frame"))
  g_Journal : mg "Journal" = some (.ref (ca K "Journal"))
  g_Machine : mg "Machine" = some (.ref (ca K "Machine"))
  g_Move : mg "Move" = some (.ref (ca K "Move"))
  g_Note : mg "Note" = some (.ref (ca K "Note"))
  g_Save : mg "Save" = some (.ref (ca K "Save"))
  k_DEEP : Says mg "DEEP" (gv K "DEEP")
  k_STACK : Says mg "STACK" (gv K "STACK")
  k_WIDE : Says mg "WIDE" (gv K "WIDE")
  k_WORDS : Says mg "WORDS" (gv K "WORDS")
  c_Account : Cls K (ca K "Account")
  c_Deed : Cls K (ca K "Deed")
  c_Frame : Cls K (ca K "Frame")
  c_Journal : Cls K (ca K "Journal")
  c_Machine : Cls K (ca K "Machine")
  c_Move : Cls K (ca K "Move")
  c_Note : Cls K (ca K "Note")
  c_Save : Cls K (ca K "Save")
  n_Save_slot : NoAttr K (ca K "Save") "slot"
  n_Save_spot : NoAttr K (ca K "Save") "spot"
  n_Save_old : NoAttr K (ca K "Save") "old"
  n_Save_new : NoAttr K (ca K "Save") "new"
  n_Move_slot : NoAttr K (ca K "Move") "slot"
  n_Move_taker : NoAttr K (ca K "Move") "taker"
  n_Move_many : NoAttr K (ca K "Move") "many"
  n_Note_slot : NoAttr K (ca K "Note") "slot"
  n_Note_number : NoAttr K (ca K "Note") "number"
  n_Frame_kind : NoAttr K (ca K "Frame") "kind"
  n_Frame_who : NoAttr K (ca K "Frame") "who"
  n_Frame_whose : NoAttr K (ca K "Frame") "whose"
  n_Frame_caller : NoAttr K (ca K "Frame") "caller"
  n_Frame_coin : NoAttr K (ca K "Frame") "coin"
  n_Frame_word : NoAttr K (ca K "Frame") "word"
  n_Frame_given : NoAttr K (ca K "Frame") "given"
  n_Frame_depth : NoAttr K (ca K "Frame") "depth"
  n_Frame_still : NoAttr K (ca K "Frame") "still"
  n_Frame_stack : NoAttr K (ca K "Frame") "stack"
  n_Frame_at : NoAttr K (ca K "Frame") "at"
  n_Frame_used : NoAttr K (ca K "Frame") "used"
  n_Frame_steps : NoAttr K (ca K "Frame") "steps"
  n_Frame_end : NoAttr K (ca K "Frame") "end"
  n_Frame_answer : NoAttr K (ca K "Frame") "answer"
  n_Machine_rooms : NoAttr K (ca K "Machine") "rooms"
  n_Machine_journal : NoAttr K (ca K "Machine") "journal"
  n_Account_coin : NoAttr K (ca K "Account") "coin"
  n_Account_purse : NoAttr K (ca K "Account") "purse"
  n_Account_count : NoAttr K (ca K "Account") "count"
  n_Account_program : NoAttr K (ca K "Account") "program"
  n_Account_store : NoAttr K (ca K "Account") "store"
  n_Journal_rooms : NoAttr K (ca K "Journal") "rooms"
  n_Journal_kept : NoAttr K (ca K "Journal") "kept"
  m_Deed_do : Meth K (ca K "Deed") "do" (He.fAd K ("Deed", some "do"))
  m_Deed_undo : Meth K (ca K "Deed") "undo" (He.fAd K ("Deed", some "undo"))
  m_Deed_told : Meth K (ca K "Deed") "told" (He.fAd K ("Deed", some "told"))
  mk_Save : Mk K (ca K "Save") (He.fAd K ("Save", some "__init__"))
  m_Save_do : Meth K (ca K "Save") "do" (He.fAd K ("Save", some "do"))
  m_Save_undo : Meth K (ca K "Save") "undo" (He.fAd K ("Save", some "undo"))
  m_Save_told : Meth K (ca K "Save") "told" (He.fAd K ("Save", some "told"))
  mk_Move : Mk K (ca K "Move") (He.fAd K ("Move", some "__init__"))
  m_Move_do : Meth K (ca K "Move") "do" (He.fAd K ("Move", some "do"))
  m_Move_undo : Meth K (ca K "Move") "undo" (He.fAd K ("Move", some "undo"))
  m_Move_told : Meth K (ca K "Move") "told" (He.fAd K ("Move", some "told"))
  mk_Note : Mk K (ca K "Note") (He.fAd K ("Note", some "__init__"))
  m_Note_told : Meth K (ca K "Note") "told" (He.fAd K ("Note", some "told"))
  mk_Frame : Mk K (ca K "Frame") (He.fAd K ("Frame", some "__init__"))
  m_Frame_finish : Meth K (ca K "Frame") "finish" (He.fAd K ("Frame", some "finish"))
  m_Frame_is_short : Meth K (ca K "Frame") "is_short" (He.fAd K ("Frame", some "is_short"))
  m_Frame_is_full : Meth K (ca K "Frame") "is_full" (He.fAd K ("Frame", some "is_full"))
  m_Frame_tree : Meth K (ca K "Frame") "tree" (He.fAd K ("Frame", some "tree"))
  m_Frame_place : Meth K (ca K "Frame") "place" (He.fAd K ("Frame", some "place"))
  m_Frame_move_about : Meth K (ca K "Frame") "move_about" (He.fAd K ("Frame", some "move_about"))
  m_Frame_lead : Meth K (ca K "Frame") "lead" (He.fAd K ("Frame", some "lead"))
  m_Frame_plain_row : Meth K (ca K "Frame") "plain_row" (He.fAd K ("Frame", some "plain_row"))
  mk_Machine : Mk K (ca K "Machine") (He.fAd K ("Machine", some "__init__"))
  m_Machine_account : Meth K (ca K "Machine") "account" (He.fAd K ("Machine", some "account"))
  m_Machine_record : Meth K (ca K "Machine") "record" (He.fAd K ("Machine", some "record"))
  m_Machine_cost : Meth K (ca K "Machine") "cost" (He.fAd K ("Machine", some "cost"))
  m_Machine_fault : Meth K (ca K "Machine") "fault" (He.fAd K ("Machine", some "fault"))
  m_Machine_unbegun : Meth K (ca K "Machine") "unbegun" (He.fAd K ("Machine", some "unbegun"))
  m_Machine_inner_call : Meth K (ca K "Machine") "inner_call" (He.fAd K ("Machine", some "inner_call"))
  m_Machine_begin : Meth K (ca K "Machine") "begin" (He.fAd K ("Machine", some "begin"))
  m_Machine_done : Meth K (ca K "Machine") "done" (He.fAd K ("Machine", some "done"))
  m_Machine_step : Meth K (ca K "Machine") "step" (He.fAd K ("Machine", some "step"))
  m_Machine_go : Meth K (ca K "Machine") "go" (He.fAd K ("Machine", some "go"))
  mk_Account : Mk K (ca K "Account") (He.fAd K ("Account", some "__init__"))
  m_Account_loaded : Meth K (ca K "Account") "loaded" (He.fAd K ("Account", some "loaded"))
  m_Account_keep : Meth K (ca K "Account") "keep" (He.fAd K ("Account", some "keep"))
  mk_Journal : Mk K (ca K "Journal") (He.fAd K ("Journal", some "__init__"))
  m_Journal_write : Meth K (ca K "Journal") "write" (He.fAd K ("Journal", some "write"))
  m_Journal_mark : Meth K (ca K "Journal") "mark" (He.fAd K ("Journal", some "mark"))
  m_Journal_back : Meth K (ca K "Journal") "back" (He.fAd K ("Journal", some "back"))
  m_Journal_told : Meth K (ca K "Journal") "told" (He.fAd K ("Journal", some "told"))
  m_Note_do : Meth K (ca K "Note") "do" (He.fAd K ("Note", some "do"))
  m_Note_undo : Meth K (ca K "Note") "undo" (He.fAd K ("Note", some "undo"))
  t_WORDS : tupZ K "WORDS" [.str "push", .str "drop", .str "copy", .str "swap", .str "add", .str "minus", .str "times", .str "over", .str "rest", .str "below", .str "same", .str "both", .str "either", .str "unlike", .str "up", .str "down", .str "jump", .str "jumpif", .str "load", .str "save", .str "me", .str "from", .str "sent", .str "word", .str "coin", .str "note", .str "call", .str "borrow", .str "look", .str "give", .str "fail"] = true
  d_Deed_do : ∃ fd, FN_Deed_do K fd
  d_Deed_undo : ∃ fd, FN_Deed_undo K fd
  d_Deed_told : ∃ fd, FN_Deed_told K fd
  d_Save_init : ∃ fd, FN_Save_init K fd
  d_Save_do : ∃ fd, FN_Save_do K fd
  d_Save_undo : ∃ fd, FN_Save_undo K fd
  d_Save_told : ∃ fd, FN_Save_told K fd
  d_carry : ∃ fd, FN_carry K fd
  d_Move_init : ∃ fd, FN_Move_init K fd
  d_Move_do : ∃ fd, FN_Move_do K fd
  d_Move_undo : ∃ fd, FN_Move_undo K fd
  d_Move_told : ∃ fd, FN_Move_told K fd
  d_Note_init : ∃ fd, FN_Note_init K fd
  d_Note_told : ∃ fd, FN_Note_told K fd
  d_reckons : ∃ fd, FN_reckons K fd
  d_takes : ∃ fd, FN_takes K fd
  d_leaves : ∃ fd, FN_leaves K fd
  d_price : ∃ fd, FN_price K fd
  d_shared : ∃ fd, FN_shared K fd
  d_moved : ∃ fd, FN_moved K fd
  d_reckon : ∃ fd, FN_reckon K fd
  d_Frame_init : ∃ fd, FN_Frame_init K fd
  d_Frame_finish : ∃ fd, FN_Frame_finish K fd
  d_Frame_is_short : ∃ fd, FN_Frame_is_short K fd
  d_Frame_is_full : ∃ fd, FN_Frame_is_full K fd
  d_Frame_tree : ∃ fd, FN_Frame_tree K fd
  d_Frame_place : ∃ fd, FN_Frame_place K fd
  d_Frame_move_about : ∃ fd, FN_Frame_move_about K fd
  d_Frame_lead : ∃ fd, FN_Frame_lead K fd
  d_Frame_plain_row : ∃ fd, FN_Frame_plain_row K fd
  d_is_change : ∃ fd, FN_is_change K fd
  d_Machine_init : ∃ fd, FN_Machine_init K fd
  d_Machine_account : ∃ fd, FN_Machine_account K fd
  d_Machine_record : ∃ fd, FN_Machine_record K fd
  d_Machine_cost : ∃ fd, FN_Machine_cost K fd
  d_Machine_fault : ∃ fd, FN_Machine_fault K fd
  d_Machine_unbegun : ∃ fd, FN_Machine_unbegun K fd
  d_Machine_inner_call : ∃ fd, FN_Machine_inner_call K fd
  d_Machine_begin : ∃ fd, FN_Machine_begin K fd
  d_Machine_done : ∃ fd, FN_Machine_done K fd
  d_Machine_step : ∃ fd, FN_Machine_step K fd
  d_Machine_go : ∃ fd, FN_Machine_go K fd
  d_enter : ∃ fd, FN_enter K fd
  d_Account_init : ∃ fd, FN_Account_init K fd
  d_Account_loaded : ∃ fd, FN_Account_loaded K fd
  d_Account_keep : ∃ fd, FN_Account_keep K fd
  d_Journal_init : ∃ fd, FN_Journal_init K fd
  d_Journal_write : ∃ fd, FN_Journal_write K fd
  d_Journal_mark : ∃ fd, FN_Journal_mark K fd
  d_Journal_back : ∃ fd, FN_Journal_back K fd
  d_Journal_told : ∃ fd, FN_Journal_told K fd
  d_l_cell_at : ∃ fd, FN_l_cell_at K fd
  d_l_alike : ∃ fd, FN_l_alike K fd
  d_l_program : ∃ fd, FN_l_program K fd
  d_l_gone : ∃ fd, FN_l_gone K fd
  d_law : ∃ fd, FN_law K fd
  d_Note_do : ∃ fd, FN_Note_do K fd
  d_Note_undo : ∃ fd, FN_Note_undo K fd
theorem hf_of {K : PySem.W.Frag} {h : Heap} {mg : Str → Option Value} (X : K.In h) (G : h.Ns mainGlobals mg) (c : SaysZ fas dfs exb K) : HF K mg :=
  ⟨He.free_ok X G (c.d.fact 0 (f := .free "bool") rfl),
   He.free_ok X G (c.d.fact 1 (f := .free "divmod") rfl),
   He.free_ok X G (c.d.fact 2 (f := .free "int") rfl),
   He.free_ok X G (c.d.fact 3 (f := .free "isinstance") rfl),
   He.free_ok X G (c.d.fact 4 (f := .free "len") rfl),
   He.free_ok X G (c.d.fact 5 (f := .free "list") rfl),
   He.free_ok X G (c.d.fact 6 (f := .free "min") rfl),
   He.free_ok X G (c.d.fact 7 (f := .free "range") rfl),
   He.free_ok X G (c.d.fact 8 (f := .free "str") rfl),
   He.free_ok X G (c.d.fact 9 (f := .free "tuple") rfl),
   He.glo_ok X G (c.d.fact 10 (f := .glo "carry") rfl),
   He.glo_ok X G (c.d.fact 11 (f := .glo "reckons") rfl),
   He.glo_ok X G (c.d.fact 12 (f := .glo "takes") rfl),
   He.glo_ok X G (c.d.fact 13 (f := .glo "leaves") rfl),
   He.glo_ok X G (c.d.fact 14 (f := .glo "price") rfl),
   He.glo_ok X G (c.d.fact 15 (f := .glo "shared") rfl),
   He.glo_ok X G (c.d.fact 16 (f := .glo "moved") rfl),
   He.glo_ok X G (c.d.fact 17 (f := .glo "reckon") rfl),
   He.glo_ok X G (c.d.fact 18 (f := .glo "is_change") rfl),
   He.glo_ok X G (c.d.fact 19 (f := .glo "enter") rfl),
   He.glo_ok X G (c.d.fact 20 (f := .glo "_law_cell_at") rfl),
   He.glo_ok X G (c.d.fact 21 (f := .glo "_law_alike") rfl),
   He.glo_ok X G (c.d.fact 22 (f := .glo "_law_program") rfl),
   He.glo_ok X G (c.d.fact 23 (f := .glo "_law_gone") rfl),
   He.glo_ok X G (c.d.fact 24 (f := .glo "law") rfl),
   He.glo_ok X G (c.d.fact 25 (f := .glo "Account") rfl),
   He.glo_ok X G (c.d.fact 26 (f := .glo "Frame") rfl),
   He.glo_ok X G (c.d.fact 27 (f := .glo "Journal") rfl),
   He.glo_ok X G (c.d.fact 28 (f := .glo "Machine") rfl),
   He.glo_ok X G (c.d.fact 29 (f := .glo "Move") rfl),
   He.glo_ok X G (c.d.fact 30 (f := .glo "Note") rfl),
   He.glo_ok X G (c.d.fact 31 (f := .glo "Save") rfl),
   says_int X G (c.d.fact 32 (f := .int "DEEP" 8) rfl),
   says_int X G (c.d.fact 33 (f := .int "STACK" 24) rfl),
   says_int X G (c.d.fact 34 (f := .int "WIDE" 18446744073709551616) rfl),
   says_glo X G (c.d.fact 35 (f := .glo "WORDS") rfl),
   He.cls_ok (c.d.fact 36 (f := .cls "Account") rfl),
   He.cls_ok (c.d.fact 37 (f := .cls "Deed") rfl),
   He.cls_ok (c.d.fact 38 (f := .cls "Frame") rfl),
   He.cls_ok (c.d.fact 39 (f := .cls "Journal") rfl),
   He.cls_ok (c.d.fact 40 (f := .cls "Machine") rfl),
   He.cls_ok (c.d.fact 41 (f := .cls "Move") rfl),
   He.cls_ok (c.d.fact 42 (f := .cls "Note") rfl),
   He.cls_ok (c.d.fact 43 (f := .cls "Save") rfl),
   He.noat_ok (c.d.fact 44 (f := .noat "Save" "slot") rfl),
   He.noat_ok (c.d.fact 45 (f := .noat "Save" "spot") rfl),
   He.noat_ok (c.d.fact 46 (f := .noat "Save" "old") rfl),
   He.noat_ok (c.d.fact 47 (f := .noat "Save" "new") rfl),
   He.noat_ok (c.d.fact 48 (f := .noat "Move" "slot") rfl),
   He.noat_ok (c.d.fact 49 (f := .noat "Move" "taker") rfl),
   He.noat_ok (c.d.fact 50 (f := .noat "Move" "many") rfl),
   He.noat_ok (c.d.fact 51 (f := .noat "Note" "slot") rfl),
   He.noat_ok (c.d.fact 52 (f := .noat "Note" "number") rfl),
   He.noat_ok (c.d.fact 53 (f := .noat "Frame" "kind") rfl),
   He.noat_ok (c.d.fact 54 (f := .noat "Frame" "who") rfl),
   He.noat_ok (c.d.fact 55 (f := .noat "Frame" "whose") rfl),
   He.noat_ok (c.d.fact 56 (f := .noat "Frame" "caller") rfl),
   He.noat_ok (c.d.fact 57 (f := .noat "Frame" "coin") rfl),
   He.noat_ok (c.d.fact 58 (f := .noat "Frame" "word") rfl),
   He.noat_ok (c.d.fact 59 (f := .noat "Frame" "given") rfl),
   He.noat_ok (c.d.fact 60 (f := .noat "Frame" "depth") rfl),
   He.noat_ok (c.d.fact 61 (f := .noat "Frame" "still") rfl),
   He.noat_ok (c.d.fact 62 (f := .noat "Frame" "stack") rfl),
   He.noat_ok (c.d.fact 63 (f := .noat "Frame" "at") rfl),
   He.noat_ok (c.d.fact 64 (f := .noat "Frame" "used") rfl),
   He.noat_ok (c.d.fact 65 (f := .noat "Frame" "steps") rfl),
   He.noat_ok (c.d.fact 66 (f := .noat "Frame" "end") rfl),
   He.noat_ok (c.d.fact 67 (f := .noat "Frame" "answer") rfl),
   He.noat_ok (c.d.fact 68 (f := .noat "Machine" "rooms") rfl),
   He.noat_ok (c.d.fact 69 (f := .noat "Machine" "journal") rfl),
   He.noat_ok (c.d.fact 70 (f := .noat "Account" "coin") rfl),
   He.noat_ok (c.d.fact 71 (f := .noat "Account" "purse") rfl),
   He.noat_ok (c.d.fact 72 (f := .noat "Account" "count") rfl),
   He.noat_ok (c.d.fact 73 (f := .noat "Account" "program") rfl),
   He.noat_ok (c.d.fact 74 (f := .noat "Account" "store") rfl),
   He.noat_ok (c.d.fact 75 (f := .noat "Journal" "rooms") rfl),
   He.noat_ok (c.d.fact 76 (f := .noat "Journal" "kept") rfl),
   He.meth_ok (c.d.fact 77 (f := .meth "Deed" "do") rfl),
   He.meth_ok (c.d.fact 78 (f := .meth "Deed" "undo") rfl),
   He.meth_ok (c.d.fact 79 (f := .meth "Deed" "told") rfl),
   He.mkr_ok (c.d.fact 80 (f := .mkr "Save") rfl),
   He.meth_ok (c.d.fact 81 (f := .meth "Save" "do") rfl),
   He.meth_ok (c.d.fact 82 (f := .meth "Save" "undo") rfl),
   He.meth_ok (c.d.fact 83 (f := .meth "Save" "told") rfl),
   He.mkr_ok (c.d.fact 84 (f := .mkr "Move") rfl),
   He.meth_ok (c.d.fact 85 (f := .meth "Move" "do") rfl),
   He.meth_ok (c.d.fact 86 (f := .meth "Move" "undo") rfl),
   He.meth_ok (c.d.fact 87 (f := .meth "Move" "told") rfl),
   He.mkr_ok (c.d.fact 88 (f := .mkr "Note") rfl),
   He.meth_ok (c.d.fact 89 (f := .meth "Note" "told") rfl),
   He.mkr_ok (c.d.fact 90 (f := .mkr "Frame") rfl),
   He.meth_ok (c.d.fact 91 (f := .meth "Frame" "finish") rfl),
   He.meth_ok (c.d.fact 92 (f := .meth "Frame" "is_short") rfl),
   He.meth_ok (c.d.fact 93 (f := .meth "Frame" "is_full") rfl),
   He.meth_ok (c.d.fact 94 (f := .meth "Frame" "tree") rfl),
   He.meth_ok (c.d.fact 95 (f := .meth "Frame" "place") rfl),
   He.meth_ok (c.d.fact 96 (f := .meth "Frame" "move_about") rfl),
   He.meth_ok (c.d.fact 97 (f := .meth "Frame" "lead") rfl),
   He.meth_ok (c.d.fact 98 (f := .meth "Frame" "plain_row") rfl),
   He.mkr_ok (c.d.fact 99 (f := .mkr "Machine") rfl),
   He.meth_ok (c.d.fact 100 (f := .meth "Machine" "account") rfl),
   He.meth_ok (c.d.fact 101 (f := .meth "Machine" "record") rfl),
   He.meth_ok (c.d.fact 102 (f := .meth "Machine" "cost") rfl),
   He.meth_ok (c.d.fact 103 (f := .meth "Machine" "fault") rfl),
   He.meth_ok (c.d.fact 104 (f := .meth "Machine" "unbegun") rfl),
   He.meth_ok (c.d.fact 105 (f := .meth "Machine" "inner_call") rfl),
   He.meth_ok (c.d.fact 106 (f := .meth "Machine" "begin") rfl),
   He.meth_ok (c.d.fact 107 (f := .meth "Machine" "done") rfl),
   He.meth_ok (c.d.fact 108 (f := .meth "Machine" "step") rfl),
   He.meth_ok (c.d.fact 109 (f := .meth "Machine" "go") rfl),
   He.mkr_ok (c.d.fact 110 (f := .mkr "Account") rfl),
   He.meth_ok (c.d.fact 111 (f := .meth "Account" "loaded") rfl),
   He.meth_ok (c.d.fact 112 (f := .meth "Account" "keep") rfl),
   He.mkr_ok (c.d.fact 113 (f := .mkr "Journal") rfl),
   He.meth_ok (c.d.fact 114 (f := .meth "Journal" "write") rfl),
   He.meth_ok (c.d.fact 115 (f := .meth "Journal" "mark") rfl),
   He.meth_ok (c.d.fact 116 (f := .meth "Journal" "back") rfl),
   He.meth_ok (c.d.fact 117 (f := .meth "Journal" "told") rfl),
   He.meth_ok (c.d.fact 118 (f := .meth "Note" "do") rfl),
   He.meth_ok (c.d.fact 119 (f := .meth "Note" "undo") rfl),
   c.more,
   c.d.def_ 0 (d := df_Deed_do) rfl,
   c.d.def_ 1 (d := df_Deed_undo) rfl,
   c.d.def_ 2 (d := df_Deed_told) rfl,
   c.d.def_ 3 (d := df_Save_init) rfl,
   c.d.def_ 4 (d := df_Save_do) rfl,
   c.d.def_ 5 (d := df_Save_undo) rfl,
   c.d.def_ 6 (d := df_Save_told) rfl,
   c.d.def_ 7 (d := df_carry) rfl,
   c.d.def_ 8 (d := df_Move_init) rfl,
   c.d.def_ 9 (d := df_Move_do) rfl,
   c.d.def_ 10 (d := df_Move_undo) rfl,
   c.d.def_ 11 (d := df_Move_told) rfl,
   c.d.def_ 12 (d := df_Note_init) rfl,
   c.d.def_ 13 (d := df_Note_told) rfl,
   c.d.def_ 14 (d := df_reckons) rfl,
   c.d.def_ 15 (d := df_takes) rfl,
   c.d.def_ 16 (d := df_leaves) rfl,
   c.d.def_ 17 (d := df_price) rfl,
   c.d.def_ 18 (d := df_shared) rfl,
   c.d.def_ 19 (d := df_moved) rfl,
   c.d.def_ 20 (d := df_reckon) rfl,
   c.d.def_ 21 (d := df_Frame_init) rfl,
   c.d.def_ 22 (d := df_Frame_finish) rfl,
   c.d.def_ 23 (d := df_Frame_is_short) rfl,
   c.d.def_ 24 (d := df_Frame_is_full) rfl,
   c.d.def_ 25 (d := df_Frame_tree) rfl,
   c.d.def_ 26 (d := df_Frame_place) rfl,
   c.d.def_ 27 (d := df_Frame_move_about) rfl,
   c.d.def_ 28 (d := df_Frame_lead) rfl,
   c.d.def_ 29 (d := df_Frame_plain_row) rfl,
   c.d.def_ 30 (d := df_is_change) rfl,
   c.d.def_ 31 (d := df_Machine_init) rfl,
   c.d.def_ 32 (d := df_Machine_account) rfl,
   c.d.def_ 33 (d := df_Machine_record) rfl,
   c.d.def_ 34 (d := df_Machine_cost) rfl,
   c.d.def_ 35 (d := df_Machine_fault) rfl,
   c.d.def_ 36 (d := df_Machine_unbegun) rfl,
   c.d.def_ 37 (d := df_Machine_inner_call) rfl,
   c.d.def_ 38 (d := df_Machine_begin) rfl,
   c.d.def_ 39 (d := df_Machine_done) rfl,
   c.d.def_ 40 (d := df_Machine_step) rfl,
   c.d.def_ 41 (d := df_Machine_go) rfl,
   c.d.def_ 42 (d := df_enter) rfl,
   c.d.def_ 43 (d := df_Account_init) rfl,
   c.d.def_ 44 (d := df_Account_loaded) rfl,
   c.d.def_ 45 (d := df_Account_keep) rfl,
   c.d.def_ 46 (d := df_Journal_init) rfl,
   c.d.def_ 47 (d := df_Journal_write) rfl,
   c.d.def_ 48 (d := df_Journal_mark) rfl,
   c.d.def_ 49 (d := df_Journal_back) rfl,
   c.d.def_ 50 (d := df_Journal_told) rfl,
   c.d.def_ 51 (d := df_l_cell_at) rfl,
   c.d.def_ 52 (d := df_l_alike) rfl,
   c.d.def_ 53 (d := df_l_program) rfl,
   c.d.def_ 54 (d := df_l_gone) rfl,
   c.d.def_ 55 (d := df_law) rfl,
   c.d.def_ 56 (d := df_Note_do) rfl,
   c.d.def_ 57 (d := df_Note_undo) rfl⟩
theorem facts {K : PySem.W.Frag} {mg : Str → Option Value} (T : HF K mg) : Facts PR K (gv K) where
  con := by
    intro x d h r n H
    simp only [PR] at h
    split at h
    · cases h; exact .int _
    · cases h; exact .int _
    · cases h; exact .int _
    · cases h; exact .tup (tupZ_ok T.t_WORDS H).1 (.cons (.str _) (.cons (.str _) (.cons (.str _) (.cons (.str _) (.cons (.str _) (.cons (.str _) (.cons (.str _) (.cons (.str _) (.cons (.str _) (.cons (.str _) (.cons (.str _) (.cons (.str _) (.cons (.str _) (.cons (.str _) (.cons (.str _) (.cons (.str _) (.cons (.str _) (.cons (.str _) (.cons (.str _) (.cons (.str _) (.cons (.str _) (.cons (.str _) (.cons (.str _) (.cons (.str _) (.cons (.str _) (.cons (.str _) (.cons (.str _) (.cons (.str _) (.cons (.str _) (.cons (.str _) (.cons (.str _) (.nil))))))))))))))))))))))))))))))))
    · cases h
  tup := by
    intro x xs h H
    simp only [PR] at h
    split at h
    · cases h
    · cases h
    · cases h
    · exact (tupZ_ok T.t_WORDS H).2
    · cases h
  fld := by
    intro cn f h
    simp only [PR] at h
    split at h
    · exact ⟨T.c_Save, T.n_Save_slot⟩
    · exact ⟨T.c_Save, T.n_Save_spot⟩
    · exact ⟨T.c_Save, T.n_Save_old⟩
    · exact ⟨T.c_Save, T.n_Save_new⟩
    · exact ⟨T.c_Move, T.n_Move_slot⟩
    · exact ⟨T.c_Move, T.n_Move_taker⟩
    · exact ⟨T.c_Move, T.n_Move_many⟩
    · exact ⟨T.c_Note, T.n_Note_slot⟩
    · exact ⟨T.c_Note, T.n_Note_number⟩
    · exact ⟨T.c_Frame, T.n_Frame_kind⟩
    · exact ⟨T.c_Frame, T.n_Frame_who⟩
    · exact ⟨T.c_Frame, T.n_Frame_whose⟩
    · exact ⟨T.c_Frame, T.n_Frame_caller⟩
    · exact ⟨T.c_Frame, T.n_Frame_coin⟩
    · exact ⟨T.c_Frame, T.n_Frame_word⟩
    · exact ⟨T.c_Frame, T.n_Frame_given⟩
    · exact ⟨T.c_Frame, T.n_Frame_depth⟩
    · exact ⟨T.c_Frame, T.n_Frame_still⟩
    · exact ⟨T.c_Frame, T.n_Frame_stack⟩
    · exact ⟨T.c_Frame, T.n_Frame_at⟩
    · exact ⟨T.c_Frame, T.n_Frame_used⟩
    · exact ⟨T.c_Frame, T.n_Frame_steps⟩
    · exact ⟨T.c_Frame, T.n_Frame_end⟩
    · exact ⟨T.c_Frame, T.n_Frame_answer⟩
    · exact ⟨T.c_Machine, T.n_Machine_rooms⟩
    · exact ⟨T.c_Machine, T.n_Machine_journal⟩
    · exact ⟨T.c_Account, T.n_Account_coin⟩
    · exact ⟨T.c_Account, T.n_Account_purse⟩
    · exact ⟨T.c_Account, T.n_Account_count⟩
    · exact ⟨T.c_Account, T.n_Account_program⟩
    · exact ⟨T.c_Account, T.n_Account_store⟩
    · exact ⟨T.c_Journal, T.n_Journal_rooms⟩
    · exact ⟨T.c_Journal, T.n_Journal_kept⟩
    · cases h
  sub := fun _ _ _ h => nomatch h
  exm := fun _ _ _ h => nomatch h
  exs := fun _ _ _ h => nomatch h
  exb := fun _ _ _ h => nomatch h
  nox := rfl
structure AL (P : Program) (w : World) (K : PySem.W.Frag) (mg : Str → Option Value) (base : Heap) (n : Nat) : Prop where
  Deed_do : Cal P w K mg base (L2.CX P w) (2 * n) (He.fAd K ("Deed", some "do")) ["self", "rooms"] [] (spR PR K n "Deed.do")
  Deed_undo : Cal P w K mg base (L2.CX P w) (2 * n) (He.fAd K ("Deed", some "undo")) ["self", "rooms"] [] (spR PR K n "Deed.undo")
  Deed_told : Cal P w K mg base (L2.CX P w) (2 * n) (He.fAd K ("Deed", some "told")) ["self"] [] (spR PR K n "Deed.told")
  Save_init : Cal P w K mg base (L2.CX P w) (2 * n) (He.fAd K ("Save", some "__init__")) ["self", "slot", "place", "old", "new"] [] (spR PR K n "Save.__init__")
  Save_do : Cal P w K mg base (L2.CX P w) (2 * n) (He.fAd K ("Save", some "do")) ["self", "rooms"] [] (spR PR K n "Save.do")
  Save_undo : Cal P w K mg base (L2.CX P w) (2 * n) (He.fAd K ("Save", some "undo")) ["self", "rooms"] [] (spR PR K n "Save.undo")
  Save_told : Cal P w K mg base (L2.CX P w) (2 * n) (He.fAd K ("Save", some "told")) ["self"] [] (spR PR K n "Save.told")
  carry : Cal P w K mg base (L2.CX P w) (2 * n) (He.fAd K ("carry", none)) ["rooms", "slot", "taker", "many"] [] (spR PR K n "carry")
  Move_init : Cal P w K mg base (L2.CX P w) (2 * n) (He.fAd K ("Move", some "__init__")) ["self", "slot", "taker", "many"] [] (spR PR K n "Move.__init__")
  Move_do : Cal P w K mg base (L2.CX P w) (2 * n) (He.fAd K ("Move", some "do")) ["self", "rooms"] [] (spR PR K n "Move.do")
  Move_undo : Cal P w K mg base (L2.CX P w) (2 * n) (He.fAd K ("Move", some "undo")) ["self", "rooms"] [] (spR PR K n "Move.undo")
  Move_told : Cal P w K mg base (L2.CX P w) (2 * n) (He.fAd K ("Move", some "told")) ["self"] [] (spR PR K n "Move.told")
  Note_init : Cal P w K mg base (L2.CX P w) (2 * n) (He.fAd K ("Note", some "__init__")) ["self", "slot", "number"] [] (spR PR K n "Note.__init__")
  Note_told : Cal P w K mg base (L2.CX P w) (2 * n) (He.fAd K ("Note", some "told")) ["self"] [] (spR PR K n "Note.told")
  reckons : Cal P w K mg base (L2.CX P w) (2 * n) (He.fAd K ("reckons", none)) ["word"] [] (spR PR K n "reckons")
  takes : Cal P w K mg base (L2.CX P w) (2 * n) (He.fAd K ("takes", none)) ["row"] [] (spR PR K n "takes")
  leaves : Cal P w K mg base (L2.CX P w) (2 * n) (He.fAd K ("leaves", none)) ["row"] [] (spR PR K n "leaves")
  price : Cal P w K mg base (L2.CX P w) (2 * n) (He.fAd K ("price", none)) ["row", "dear"] [] (spR PR K n "price")
  shared : Cal P w K mg base (L2.CX P w) (2 * n) (He.fAd K ("shared", none)) ["word", "one", "other"] [] (spR PR K n "shared")
  moved : Cal P w K mg base (L2.CX P w) (2 * n) (He.fAd K ("moved", none)) ["word", "one", "other"] [] (spR PR K n "moved")
  reckon : Cal P w K mg base (L2.CX P w) (2 * n) (He.fAd K ("reckon", none)) ["word", "one", "other"] [] (spR PR K n "reckon")
  Frame_init : Cal P w K mg base (L2.CX P w) (2 * n) (He.fAd K ("Frame", some "__init__")) ["self", "kind", "who", "whose", "caller", "coin", "word"] [] (spR PR K n "Frame.__init__")
  Frame_finish : Cal P w K mg base (L2.CX P w) (2 * n) (He.fAd K ("Frame", some "finish")) ["self", "end", "answer"] [] (spR PR K n "Frame.finish")
  Frame_is_short : Cal P w K mg base (L2.CX P w) (2 * n) (He.fAd K ("Frame", some "is_short")) ["self", "row"] [] (spR PR K n "Frame.is_short")
  Frame_is_full : Cal P w K mg base (L2.CX P w) (2 * n) (He.fAd K ("Frame", some "is_full")) ["self", "row"] [] (spR PR K n "Frame.is_full")
  Frame_tree : Cal P w K mg base (L2.CX P w) (2 * n) (He.fAd K ("Frame", some "tree")) ["self"] [] (spR PR K n "Frame.tree")
  Frame_place : Cal P w K mg base (L2.CX P w) (2 * n) (He.fAd K ("Frame", some "place")) ["self", "word"] [] (spR PR K n "Frame.place")
  Frame_move_about : Cal P w K mg base (L2.CX P w) (2 * n) (He.fAd K ("Frame", some "move_about")) ["self", "row"] [] (spR PR K n "Frame.move_about")
  Frame_lead : Cal P w K mg base (L2.CX P w) (2 * n) (He.fAd K ("Frame", some "lead")) ["self", "row"] [] (spR PR K n "Frame.lead")
  Frame_plain_row : Cal P w K mg base (L2.CX P w) (2 * n) (He.fAd K ("Frame", some "plain_row")) ["self", "row"] [] (spR PR K n "Frame.plain_row")
  is_change : Cal P w K mg base (L2.CX P w) (2 * n) (He.fAd K ("is_change", none)) ["row", "stack"] [] (spR PR K n "is_change")
  Machine_init : Cal P w K mg base (L2.CX P w) (2 * n) (He.fAd K ("Machine", some "__init__")) ["self", "rooms", "journal"] [] (spR PR K n "Machine.__init__")
  Machine_account : Cal P w K mg base (L2.CX P w) (2 * n) (He.fAd K ("Machine", some "account")) ["self", "slot"] [] (spR PR K n "Machine.account")
  Machine_record : Cal P w K mg base (L2.CX P w) (2 * n) (He.fAd K ("Machine", some "record")) ["self", "frame", "deed"] [] (spR PR K n "Machine.record")
  Machine_cost : Cal P w K mg base (L2.CX P w) (2 * n) (He.fAd K ("Machine", some "cost")) ["self", "frame", "row"] [] (spR PR K n "Machine.cost")
  Machine_fault : Cal P w K mg base (L2.CX P w) (2 * n) (He.fAd K ("Machine", some "fault")) ["self", "frame", "row"] [] (spR PR K n "Machine.fault")
  Machine_unbegun : Cal P w K mg base (L2.CX P w) (2 * n) (He.fAd K ("Machine", some "unbegun")) ["self", "frame", "inner", "slot"] [] (spR PR K n "Machine.unbegun")
  Machine_inner_call : Cal P w K mg base (L2.CX P w) (2 * n) (He.fAd K ("Machine", some "inner_call")) ["self", "frame", "kind"] [] (spR PR K n "Machine.inner_call")
  Machine_begin : Cal P w K mg base (L2.CX P w) (2 * n) (He.fAd K ("Machine", some "begin")) ["self", "frame", "kind"] [] (spR PR K n "Machine.begin")
  Machine_done : Cal P w K mg base (L2.CX P w) (2 * n) (He.fAd K ("Machine", some "done")) ["self", "frame", "row"] [] (spR PR K n "Machine.done")
  Machine_step : Cal P w K mg base (L2.CX P w) (2 * n) (He.fAd K ("Machine", some "step")) ["self", "frame"] [] (spR PR K n "Machine.step")
  Machine_go : Cal P w K mg base (L2.CX P w) (2 * n) (He.fAd K ("Machine", some "go")) ["self", "frame"] [] (spR PR K n "Machine.go")
  enter : Cal P w K mg base (L2.CX P w) (2 * n) (He.fAd K ("enter", none)) ["rooms", "journal", "caller", "who", "coin", "word", "given"] [] (spR PR K n "enter")
  Account_init : Cal P w K mg base (L2.CX P w) (2 * n) (He.fAd K ("Account", some "__init__")) ["self", "coin", "purse", "program"] [] (spR PR K n "Account.__init__")
  Account_loaded : Cal P w K mg base (L2.CX P w) (2 * n) (He.fAd K ("Account", some "loaded")) ["self", "place"] [] (spR PR K n "Account.loaded")
  Account_keep : Cal P w K mg base (L2.CX P w) (2 * n) (He.fAd K ("Account", some "keep")) ["self", "place", "number"] [] (spR PR K n "Account.keep")
  Journal_init : Cal P w K mg base (L2.CX P w) (2 * n) (He.fAd K ("Journal", some "__init__")) ["self", "rooms"] [] (spR PR K n "Journal.__init__")
  Journal_write : Cal P w K mg base (L2.CX P w) (2 * n) (He.fAd K ("Journal", some "write")) ["self", "deed"] [] (spR PR K n "Journal.write")
  Journal_mark : Cal P w K mg base (L2.CX P w) (2 * n) (He.fAd K ("Journal", some "mark")) ["self"] [] (spR PR K n "Journal.mark")
  Journal_back : Cal P w K mg base (L2.CX P w) (2 * n) (He.fAd K ("Journal", some "back")) ["self", "mark"] [] (spR PR K n "Journal.back")
  Journal_told : Cal P w K mg base (L2.CX P w) (2 * n) (He.fAd K ("Journal", some "told")) ["self"] [] (spR PR K n "Journal.told")
  l_cell_at : Cal P w K mg base (L2.CX P w) (2 * n) (He.fAd K ("_law_cell_at", none)) ["_law_script", "_law_k"] [] (spR PR K n "_law_cell_at")
  l_alike : Cal P w K mg base (L2.CX P w) (2 * n) (He.fAd K ("_law_alike", none)) ["_law_found", "_law_due"] [] (spR PR K n "_law_alike")
  l_program : Cal P w K mg base (L2.CX P w) (2 * n) (He.fAd K ("_law_program", none)) ["_law_over", "_law_number", "_law_pairs", "_law_last"] [] (spR PR K n "_law_program")
  l_gone : Cal P w K mg base (L2.CX P w) (2 * n) (He.fAd K ("_law_gone", none)) ["_law_over", "_law_number", "_law_pairs", "_law_most"] [] (spR PR K n "_law_gone")
  law : Cal P w K mg base (L2.CX P w) (2 * n) (He.fAd K ("law", none)) ["_law_script"] [] (spR PR K n "law")
  Note_do : Cal P w K mg base (L2.CX P w) (2 * n) (He.fAd K ("Note", some "do")) ["self", "rooms"] [] (spR PR K n "Note.do")
  Note_undo : Cal P w K mg base (L2.CX P w) (2 * n) (He.fAd K ("Note", some "undo")) ["self", "rooms"] [] (spR PR K n "Note.undo")
  m_account_0 : Mets P w K mg base (L2.CX P w) (2 * n) PR "account" [] (spR PR K n)
  m_back_0 : Mets P w K mg base (L2.CX P w) (2 * n) PR "back" [] (spR PR K n)
  m_begin_0 : Mets P w K mg base (L2.CX P w) (2 * n) PR "begin" [] (spR PR K n)
  m_cost_0 : Mets P w K mg base (L2.CX P w) (2 * n) PR "cost" [] (spR PR K n)
  m_do_0 : Mets P w K mg base (L2.CX P w) (2 * n) PR "do" [] (spR PR K n)
  m_done_0 : Mets P w K mg base (L2.CX P w) (2 * n) PR "done" [] (spR PR K n)
  m_fault_0 : Mets P w K mg base (L2.CX P w) (2 * n) PR "fault" [] (spR PR K n)
  m_finish_0 : Mets P w K mg base (L2.CX P w) (2 * n) PR "finish" [] (spR PR K n)
  m_go_0 : Mets P w K mg base (L2.CX P w) (2 * n) PR "go" [] (spR PR K n)
  m_inner_call_0 : Mets P w K mg base (L2.CX P w) (2 * n) PR "inner_call" [] (spR PR K n)
  m_is_full_0 : Mets P w K mg base (L2.CX P w) (2 * n) PR "is_full" [] (spR PR K n)
  m_is_short_0 : Mets P w K mg base (L2.CX P w) (2 * n) PR "is_short" [] (spR PR K n)
  m_keep_0 : Mets P w K mg base (L2.CX P w) (2 * n) PR "keep" [] (spR PR K n)
  m_lead_0 : Mets P w K mg base (L2.CX P w) (2 * n) PR "lead" [] (spR PR K n)
  m_loaded_0 : Mets P w K mg base (L2.CX P w) (2 * n) PR "loaded" [] (spR PR K n)
  m_mark_0 : Mets P w K mg base (L2.CX P w) (2 * n) PR "mark" [] (spR PR K n)
  m_move_about_0 : Mets P w K mg base (L2.CX P w) (2 * n) PR "move_about" [] (spR PR K n)
  m_place_0 : Mets P w K mg base (L2.CX P w) (2 * n) PR "place" [] (spR PR K n)
  m_plain_row_0 : Mets P w K mg base (L2.CX P w) (2 * n) PR "plain_row" [] (spR PR K n)
  m_record_0 : Mets P w K mg base (L2.CX P w) (2 * n) PR "record" [] (spR PR K n)
  m_step_0 : Mets P w K mg base (L2.CX P w) (2 * n) PR "step" [] (spR PR K n)
  m_told_0 : Mets P w K mg base (L2.CX P w) (2 * n) PR "told" [] (spR PR K n)
  m_tree_0 : Mets P w K mg base (L2.CX P w) (2 * n) PR "tree" [] (spR PR K n)
  m_unbegun_0 : Mets P w K mg base (L2.CX P w) (2 * n) PR "unbegun" [] (spR PR K n)
  m_undo_0 : Mets P w K mg base (L2.CX P w) (2 * n) PR "undo" [] (spR PR K n)
  m_write_0 : Mets P w K mg base (L2.CX P w) (2 * n) PR "write" [] (spR PR K n)
  mk_Account : Mkr P w K mg base (L2.CX P w) (2 * n) PR "Account" (spR PR K n)
  mk_Frame : Mkr P w K mg base (L2.CX P w) (2 * n) PR "Frame" (spR PR K n)
  mk_Journal : Mkr P w K mg base (L2.CX P w) (2 * n) PR "Journal" (spR PR K n)
  mk_Machine : Mkr P w K mg base (L2.CX P w) (2 * n) PR "Machine" (spR PR K n)
  mk_Move : Mkr P w K mg base (L2.CX P w) (2 * n) PR "Move" (spR PR K n)
  mk_Note : Mkr P w K mg base (L2.CX P w) (2 * n) PR "Note" (spR PR K n)
  mk_Save : Mkr P w K mg base (L2.CX P w) (2 * n) PR "Save" (spR PR K n)
theorem cal_Deed_do {P : Program} {w : World} {K : PySem.W.Frag} {mg : Str → Option Value} {base : Heap} (T : HF K mg) {k : Nat} {sp : Sp} (h : ∀ fd, FN_Deed_do K fd → FnOk P w K mg base (L2.CX P w) k (He.fAd K ("Deed", some "do")) fd ["self", "rooms"] sp) : Cal P w K mg base (L2.CX P w) (k) (He.fAd K ("Deed", some "do")) ["self", "rooms"] [] (sp) := by
  obtain ⟨fd, F⟩ := T.d_Deed_do
  exact cal_of F (h fd F) (fun _ _ _ _ _ _ us hl => match us, hl with | [_, _], _ => rfl)
theorem cal_Deed_undo {P : Program} {w : World} {K : PySem.W.Frag} {mg : Str → Option Value} {base : Heap} (T : HF K mg) {k : Nat} {sp : Sp} (h : ∀ fd, FN_Deed_undo K fd → FnOk P w K mg base (L2.CX P w) k (He.fAd K ("Deed", some "undo")) fd ["self", "rooms"] sp) : Cal P w K mg base (L2.CX P w) (k) (He.fAd K ("Deed", some "undo")) ["self", "rooms"] [] (sp) := by
  obtain ⟨fd, F⟩ := T.d_Deed_undo
  exact cal_of F (h fd F) (fun _ _ _ _ _ _ us hl => match us, hl with | [_, _], _ => rfl)
theorem cal_Deed_told {P : Program} {w : World} {K : PySem.W.Frag} {mg : Str → Option Value} {base : Heap} (T : HF K mg) {k : Nat} {sp : Sp} (h : ∀ fd, FN_Deed_told K fd → FnOk P w K mg base (L2.CX P w) k (He.fAd K ("Deed", some "told")) fd ["self"] sp) : Cal P w K mg base (L2.CX P w) (k) (He.fAd K ("Deed", some "told")) ["self"] [] (sp) := by
  obtain ⟨fd, F⟩ := T.d_Deed_told
  exact cal_of F (h fd F) (fun _ _ _ _ _ _ us hl => match us, hl with | [_], _ => rfl)
theorem cal_Save_init {P : Program} {w : World} {K : PySem.W.Frag} {mg : Str → Option Value} {base : Heap} (T : HF K mg) {k : Nat} {sp : Sp} (h : ∀ fd, FN_Save_init K fd → FnOk P w K mg base (L2.CX P w) k (He.fAd K ("Save", some "__init__")) fd ["self", "slot", "place", "old", "new"] sp) : Cal P w K mg base (L2.CX P w) (k) (He.fAd K ("Save", some "__init__")) ["self", "slot", "place", "old", "new"] [] (sp) := by
  obtain ⟨fd, F⟩ := T.d_Save_init
  exact cal_of F (h fd F) (fun _ _ _ _ _ _ us hl => match us, hl with | [_, _, _, _, _], _ => rfl)
theorem cal_Save_do {P : Program} {w : World} {K : PySem.W.Frag} {mg : Str → Option Value} {base : Heap} (T : HF K mg) {k : Nat} {sp : Sp} (h : ∀ fd, FN_Save_do K fd → FnOk P w K mg base (L2.CX P w) k (He.fAd K ("Save", some "do")) fd ["self", "rooms"] sp) : Cal P w K mg base (L2.CX P w) (k) (He.fAd K ("Save", some "do")) ["self", "rooms"] [] (sp) := by
  obtain ⟨fd, F⟩ := T.d_Save_do
  exact cal_of F (h fd F) (fun _ _ _ _ _ _ us hl => match us, hl with | [_, _], _ => rfl)
theorem cal_Save_undo {P : Program} {w : World} {K : PySem.W.Frag} {mg : Str → Option Value} {base : Heap} (T : HF K mg) {k : Nat} {sp : Sp} (h : ∀ fd, FN_Save_undo K fd → FnOk P w K mg base (L2.CX P w) k (He.fAd K ("Save", some "undo")) fd ["self", "rooms"] sp) : Cal P w K mg base (L2.CX P w) (k) (He.fAd K ("Save", some "undo")) ["self", "rooms"] [] (sp) := by
  obtain ⟨fd, F⟩ := T.d_Save_undo
  exact cal_of F (h fd F) (fun _ _ _ _ _ _ us hl => match us, hl with | [_, _], _ => rfl)
theorem cal_Save_told {P : Program} {w : World} {K : PySem.W.Frag} {mg : Str → Option Value} {base : Heap} (T : HF K mg) {k : Nat} {sp : Sp} (h : ∀ fd, FN_Save_told K fd → FnOk P w K mg base (L2.CX P w) k (He.fAd K ("Save", some "told")) fd ["self"] sp) : Cal P w K mg base (L2.CX P w) (k) (He.fAd K ("Save", some "told")) ["self"] [] (sp) := by
  obtain ⟨fd, F⟩ := T.d_Save_told
  exact cal_of F (h fd F) (fun _ _ _ _ _ _ us hl => match us, hl with | [_], _ => rfl)
theorem cal_carry {P : Program} {w : World} {K : PySem.W.Frag} {mg : Str → Option Value} {base : Heap} (T : HF K mg) {k : Nat} {sp : Sp} (h : ∀ fd, FN_carry K fd → FnOk P w K mg base (L2.CX P w) k (He.fAd K ("carry", none)) fd ["rooms", "slot", "taker", "many"] sp) : Cal P w K mg base (L2.CX P w) (k) (He.fAd K ("carry", none)) ["rooms", "slot", "taker", "many"] [] (sp) := by
  obtain ⟨fd, F⟩ := T.d_carry
  exact cal_of F (h fd F) (fun _ _ _ _ _ _ us hl => match us, hl with | [_, _, _, _], _ => rfl)
theorem cal_Move_init {P : Program} {w : World} {K : PySem.W.Frag} {mg : Str → Option Value} {base : Heap} (T : HF K mg) {k : Nat} {sp : Sp} (h : ∀ fd, FN_Move_init K fd → FnOk P w K mg base (L2.CX P w) k (He.fAd K ("Move", some "__init__")) fd ["self", "slot", "taker", "many"] sp) : Cal P w K mg base (L2.CX P w) (k) (He.fAd K ("Move", some "__init__")) ["self", "slot", "taker", "many"] [] (sp) := by
  obtain ⟨fd, F⟩ := T.d_Move_init
  exact cal_of F (h fd F) (fun _ _ _ _ _ _ us hl => match us, hl with | [_, _, _, _], _ => rfl)
theorem cal_Move_do {P : Program} {w : World} {K : PySem.W.Frag} {mg : Str → Option Value} {base : Heap} (T : HF K mg) {k : Nat} {sp : Sp} (h : ∀ fd, FN_Move_do K fd → FnOk P w K mg base (L2.CX P w) k (He.fAd K ("Move", some "do")) fd ["self", "rooms"] sp) : Cal P w K mg base (L2.CX P w) (k) (He.fAd K ("Move", some "do")) ["self", "rooms"] [] (sp) := by
  obtain ⟨fd, F⟩ := T.d_Move_do
  exact cal_of F (h fd F) (fun _ _ _ _ _ _ us hl => match us, hl with | [_, _], _ => rfl)
theorem cal_Move_undo {P : Program} {w : World} {K : PySem.W.Frag} {mg : Str → Option Value} {base : Heap} (T : HF K mg) {k : Nat} {sp : Sp} (h : ∀ fd, FN_Move_undo K fd → FnOk P w K mg base (L2.CX P w) k (He.fAd K ("Move", some "undo")) fd ["self", "rooms"] sp) : Cal P w K mg base (L2.CX P w) (k) (He.fAd K ("Move", some "undo")) ["self", "rooms"] [] (sp) := by
  obtain ⟨fd, F⟩ := T.d_Move_undo
  exact cal_of F (h fd F) (fun _ _ _ _ _ _ us hl => match us, hl with | [_, _], _ => rfl)
theorem cal_Move_told {P : Program} {w : World} {K : PySem.W.Frag} {mg : Str → Option Value} {base : Heap} (T : HF K mg) {k : Nat} {sp : Sp} (h : ∀ fd, FN_Move_told K fd → FnOk P w K mg base (L2.CX P w) k (He.fAd K ("Move", some "told")) fd ["self"] sp) : Cal P w K mg base (L2.CX P w) (k) (He.fAd K ("Move", some "told")) ["self"] [] (sp) := by
  obtain ⟨fd, F⟩ := T.d_Move_told
  exact cal_of F (h fd F) (fun _ _ _ _ _ _ us hl => match us, hl with | [_], _ => rfl)
theorem cal_Note_init {P : Program} {w : World} {K : PySem.W.Frag} {mg : Str → Option Value} {base : Heap} (T : HF K mg) {k : Nat} {sp : Sp} (h : ∀ fd, FN_Note_init K fd → FnOk P w K mg base (L2.CX P w) k (He.fAd K ("Note", some "__init__")) fd ["self", "slot", "number"] sp) : Cal P w K mg base (L2.CX P w) (k) (He.fAd K ("Note", some "__init__")) ["self", "slot", "number"] [] (sp) := by
  obtain ⟨fd, F⟩ := T.d_Note_init
  exact cal_of F (h fd F) (fun _ _ _ _ _ _ us hl => match us, hl with | [_, _, _], _ => rfl)
theorem cal_Note_told {P : Program} {w : World} {K : PySem.W.Frag} {mg : Str → Option Value} {base : Heap} (T : HF K mg) {k : Nat} {sp : Sp} (h : ∀ fd, FN_Note_told K fd → FnOk P w K mg base (L2.CX P w) k (He.fAd K ("Note", some "told")) fd ["self"] sp) : Cal P w K mg base (L2.CX P w) (k) (He.fAd K ("Note", some "told")) ["self"] [] (sp) := by
  obtain ⟨fd, F⟩ := T.d_Note_told
  exact cal_of F (h fd F) (fun _ _ _ _ _ _ us hl => match us, hl with | [_], _ => rfl)
theorem cal_reckons {P : Program} {w : World} {K : PySem.W.Frag} {mg : Str → Option Value} {base : Heap} (T : HF K mg) {k : Nat} {sp : Sp} (h : ∀ fd, FN_reckons K fd → FnOk P w K mg base (L2.CX P w) k (He.fAd K ("reckons", none)) fd ["word"] sp) : Cal P w K mg base (L2.CX P w) (k) (He.fAd K ("reckons", none)) ["word"] [] (sp) := by
  obtain ⟨fd, F⟩ := T.d_reckons
  exact cal_of F (h fd F) (fun _ _ _ _ _ _ us hl => match us, hl with | [_], _ => rfl)
theorem cal_takes {P : Program} {w : World} {K : PySem.W.Frag} {mg : Str → Option Value} {base : Heap} (T : HF K mg) {k : Nat} {sp : Sp} (h : ∀ fd, FN_takes K fd → FnOk P w K mg base (L2.CX P w) k (He.fAd K ("takes", none)) fd ["row"] sp) : Cal P w K mg base (L2.CX P w) (k) (He.fAd K ("takes", none)) ["row"] [] (sp) := by
  obtain ⟨fd, F⟩ := T.d_takes
  exact cal_of F (h fd F) (fun _ _ _ _ _ _ us hl => match us, hl with | [_], _ => rfl)
theorem cal_leaves {P : Program} {w : World} {K : PySem.W.Frag} {mg : Str → Option Value} {base : Heap} (T : HF K mg) {k : Nat} {sp : Sp} (h : ∀ fd, FN_leaves K fd → FnOk P w K mg base (L2.CX P w) k (He.fAd K ("leaves", none)) fd ["row"] sp) : Cal P w K mg base (L2.CX P w) (k) (He.fAd K ("leaves", none)) ["row"] [] (sp) := by
  obtain ⟨fd, F⟩ := T.d_leaves
  exact cal_of F (h fd F) (fun _ _ _ _ _ _ us hl => match us, hl with | [_], _ => rfl)
theorem cal_price {P : Program} {w : World} {K : PySem.W.Frag} {mg : Str → Option Value} {base : Heap} (T : HF K mg) {k : Nat} {sp : Sp} (h : ∀ fd, FN_price K fd → FnOk P w K mg base (L2.CX P w) k (He.fAd K ("price", none)) fd ["row", "dear"] sp) : Cal P w K mg base (L2.CX P w) (k) (He.fAd K ("price", none)) ["row", "dear"] [] (sp) := by
  obtain ⟨fd, F⟩ := T.d_price
  exact cal_dfl 2 1 F (h fd F) (List.cons_ne_nil _ _) rfl (fun _ _ _ _ _ _ _ us its hl hi => match us, hl, its, hi with | [_, _], _, [_], _ => ⟨_, rfl, rfl⟩)
theorem cal_shared {P : Program} {w : World} {K : PySem.W.Frag} {mg : Str → Option Value} {base : Heap} (T : HF K mg) {k : Nat} {sp : Sp} (h : ∀ fd, FN_shared K fd → FnOk P w K mg base (L2.CX P w) k (He.fAd K ("shared", none)) fd ["word", "one", "other"] sp) : Cal P w K mg base (L2.CX P w) (k) (He.fAd K ("shared", none)) ["word", "one", "other"] [] (sp) := by
  obtain ⟨fd, F⟩ := T.d_shared
  exact cal_of F (h fd F) (fun _ _ _ _ _ _ us hl => match us, hl with | [_, _, _], _ => rfl)
theorem cal_moved {P : Program} {w : World} {K : PySem.W.Frag} {mg : Str → Option Value} {base : Heap} (T : HF K mg) {k : Nat} {sp : Sp} (h : ∀ fd, FN_moved K fd → FnOk P w K mg base (L2.CX P w) k (He.fAd K ("moved", none)) fd ["word", "one", "other"] sp) : Cal P w K mg base (L2.CX P w) (k) (He.fAd K ("moved", none)) ["word", "one", "other"] [] (sp) := by
  obtain ⟨fd, F⟩ := T.d_moved
  exact cal_of F (h fd F) (fun _ _ _ _ _ _ us hl => match us, hl with | [_, _, _], _ => rfl)
theorem cal_reckon {P : Program} {w : World} {K : PySem.W.Frag} {mg : Str → Option Value} {base : Heap} (T : HF K mg) {k : Nat} {sp : Sp} (h : ∀ fd, FN_reckon K fd → FnOk P w K mg base (L2.CX P w) k (He.fAd K ("reckon", none)) fd ["word", "one", "other"] sp) : Cal P w K mg base (L2.CX P w) (k) (He.fAd K ("reckon", none)) ["word", "one", "other"] [] (sp) := by
  obtain ⟨fd, F⟩ := T.d_reckon
  exact cal_of F (h fd F) (fun _ _ _ _ _ _ us hl => match us, hl with | [_, _, _], _ => rfl)
theorem cal_Frame_init {P : Program} {w : World} {K : PySem.W.Frag} {mg : Str → Option Value} {base : Heap} (T : HF K mg) {k : Nat} {sp : Sp} (h : ∀ fd, FN_Frame_init K fd → FnOk P w K mg base (L2.CX P w) k (He.fAd K ("Frame", some "__init__")) fd ["self", "kind", "who", "whose", "caller", "coin", "word"] sp) : Cal P w K mg base (L2.CX P w) (k) (He.fAd K ("Frame", some "__init__")) ["self", "kind", "who", "whose", "caller", "coin", "word"] [] (sp) := by
  obtain ⟨fd, F⟩ := T.d_Frame_init
  exact cal_of F (h fd F) (fun _ _ _ _ _ _ us hl => match us, hl with | [_, _, _, _, _, _, _], _ => rfl)
theorem cal_Frame_finish {P : Program} {w : World} {K : PySem.W.Frag} {mg : Str → Option Value} {base : Heap} (T : HF K mg) {k : Nat} {sp : Sp} (h : ∀ fd, FN_Frame_finish K fd → FnOk P w K mg base (L2.CX P w) k (He.fAd K ("Frame", some "finish")) fd ["self", "end", "answer"] sp) : Cal P w K mg base (L2.CX P w) (k) (He.fAd K ("Frame", some "finish")) ["self", "end", "answer"] [] (sp) := by
  obtain ⟨fd, F⟩ := T.d_Frame_finish
  exact cal_of F (h fd F) (fun _ _ _ _ _ _ us hl => match us, hl with | [_, _, _], _ => rfl)
theorem cal_Frame_is_short {P : Program} {w : World} {K : PySem.W.Frag} {mg : Str → Option Value} {base : Heap} (T : HF K mg) {k : Nat} {sp : Sp} (h : ∀ fd, FN_Frame_is_short K fd → FnOk P w K mg base (L2.CX P w) k (He.fAd K ("Frame", some "is_short")) fd ["self", "row"] sp) : Cal P w K mg base (L2.CX P w) (k) (He.fAd K ("Frame", some "is_short")) ["self", "row"] [] (sp) := by
  obtain ⟨fd, F⟩ := T.d_Frame_is_short
  exact cal_of F (h fd F) (fun _ _ _ _ _ _ us hl => match us, hl with | [_, _], _ => rfl)
theorem cal_Frame_is_full {P : Program} {w : World} {K : PySem.W.Frag} {mg : Str → Option Value} {base : Heap} (T : HF K mg) {k : Nat} {sp : Sp} (h : ∀ fd, FN_Frame_is_full K fd → FnOk P w K mg base (L2.CX P w) k (He.fAd K ("Frame", some "is_full")) fd ["self", "row"] sp) : Cal P w K mg base (L2.CX P w) (k) (He.fAd K ("Frame", some "is_full")) ["self", "row"] [] (sp) := by
  obtain ⟨fd, F⟩ := T.d_Frame_is_full
  exact cal_of F (h fd F) (fun _ _ _ _ _ _ us hl => match us, hl with | [_, _], _ => rfl)
theorem cal_Frame_tree {P : Program} {w : World} {K : PySem.W.Frag} {mg : Str → Option Value} {base : Heap} (T : HF K mg) {k : Nat} {sp : Sp} (h : ∀ fd, FN_Frame_tree K fd → FnOk P w K mg base (L2.CX P w) k (He.fAd K ("Frame", some "tree")) fd ["self"] sp) : Cal P w K mg base (L2.CX P w) (k) (He.fAd K ("Frame", some "tree")) ["self"] [] (sp) := by
  obtain ⟨fd, F⟩ := T.d_Frame_tree
  exact cal_of F (h fd F) (fun _ _ _ _ _ _ us hl => match us, hl with | [_], _ => rfl)
theorem cal_Frame_place {P : Program} {w : World} {K : PySem.W.Frag} {mg : Str → Option Value} {base : Heap} (T : HF K mg) {k : Nat} {sp : Sp} (h : ∀ fd, FN_Frame_place K fd → FnOk P w K mg base (L2.CX P w) k (He.fAd K ("Frame", some "place")) fd ["self", "word"] sp) : Cal P w K mg base (L2.CX P w) (k) (He.fAd K ("Frame", some "place")) ["self", "word"] [] (sp) := by
  obtain ⟨fd, F⟩ := T.d_Frame_place
  exact cal_of F (h fd F) (fun _ _ _ _ _ _ us hl => match us, hl with | [_, _], _ => rfl)
theorem cal_Frame_move_about {P : Program} {w : World} {K : PySem.W.Frag} {mg : Str → Option Value} {base : Heap} (T : HF K mg) {k : Nat} {sp : Sp} (h : ∀ fd, FN_Frame_move_about K fd → FnOk P w K mg base (L2.CX P w) k (He.fAd K ("Frame", some "move_about")) fd ["self", "row"] sp) : Cal P w K mg base (L2.CX P w) (k) (He.fAd K ("Frame", some "move_about")) ["self", "row"] [] (sp) := by
  obtain ⟨fd, F⟩ := T.d_Frame_move_about
  exact cal_of F (h fd F) (fun _ _ _ _ _ _ us hl => match us, hl with | [_, _], _ => rfl)
theorem cal_Frame_lead {P : Program} {w : World} {K : PySem.W.Frag} {mg : Str → Option Value} {base : Heap} (T : HF K mg) {k : Nat} {sp : Sp} (h : ∀ fd, FN_Frame_lead K fd → FnOk P w K mg base (L2.CX P w) k (He.fAd K ("Frame", some "lead")) fd ["self", "row"] sp) : Cal P w K mg base (L2.CX P w) (k) (He.fAd K ("Frame", some "lead")) ["self", "row"] [] (sp) := by
  obtain ⟨fd, F⟩ := T.d_Frame_lead
  exact cal_of F (h fd F) (fun _ _ _ _ _ _ us hl => match us, hl with | [_, _], _ => rfl)
theorem cal_Frame_plain_row {P : Program} {w : World} {K : PySem.W.Frag} {mg : Str → Option Value} {base : Heap} (T : HF K mg) {k : Nat} {sp : Sp} (h : ∀ fd, FN_Frame_plain_row K fd → FnOk P w K mg base (L2.CX P w) k (He.fAd K ("Frame", some "plain_row")) fd ["self", "row"] sp) : Cal P w K mg base (L2.CX P w) (k) (He.fAd K ("Frame", some "plain_row")) ["self", "row"] [] (sp) := by
  obtain ⟨fd, F⟩ := T.d_Frame_plain_row
  exact cal_of F (h fd F) (fun _ _ _ _ _ _ us hl => match us, hl with | [_, _], _ => rfl)
theorem cal_is_change {P : Program} {w : World} {K : PySem.W.Frag} {mg : Str → Option Value} {base : Heap} (T : HF K mg) {k : Nat} {sp : Sp} (h : ∀ fd, FN_is_change K fd → FnOk P w K mg base (L2.CX P w) k (He.fAd K ("is_change", none)) fd ["row", "stack"] sp) : Cal P w K mg base (L2.CX P w) (k) (He.fAd K ("is_change", none)) ["row", "stack"] [] (sp) := by
  obtain ⟨fd, F⟩ := T.d_is_change
  exact cal_of F (h fd F) (fun _ _ _ _ _ _ us hl => match us, hl with | [_, _], _ => rfl)
theorem cal_Machine_init {P : Program} {w : World} {K : PySem.W.Frag} {mg : Str → Option Value} {base : Heap} (T : HF K mg) {k : Nat} {sp : Sp} (h : ∀ fd, FN_Machine_init K fd → FnOk P w K mg base (L2.CX P w) k (He.fAd K ("Machine", some "__init__")) fd ["self", "rooms", "journal"] sp) : Cal P w K mg base (L2.CX P w) (k) (He.fAd K ("Machine", some "__init__")) ["self", "rooms", "journal"] [] (sp) := by
  obtain ⟨fd, F⟩ := T.d_Machine_init
  exact cal_of F (h fd F) (fun _ _ _ _ _ _ us hl => match us, hl with | [_, _, _], _ => rfl)
theorem cal_Machine_account {P : Program} {w : World} {K : PySem.W.Frag} {mg : Str → Option Value} {base : Heap} (T : HF K mg) {k : Nat} {sp : Sp} (h : ∀ fd, FN_Machine_account K fd → FnOk P w K mg base (L2.CX P w) k (He.fAd K ("Machine", some "account")) fd ["self", "slot"] sp) : Cal P w K mg base (L2.CX P w) (k) (He.fAd K ("Machine", some "account")) ["self", "slot"] [] (sp) := by
  obtain ⟨fd, F⟩ := T.d_Machine_account
  exact cal_of F (h fd F) (fun _ _ _ _ _ _ us hl => match us, hl with | [_, _], _ => rfl)
theorem cal_Machine_record {P : Program} {w : World} {K : PySem.W.Frag} {mg : Str → Option Value} {base : Heap} (T : HF K mg) {k : Nat} {sp : Sp} (h : ∀ fd, FN_Machine_record K fd → FnOk P w K mg base (L2.CX P w) k (He.fAd K ("Machine", some "record")) fd ["self", "frame", "deed"] sp) : Cal P w K mg base (L2.CX P w) (k) (He.fAd K ("Machine", some "record")) ["self", "frame", "deed"] [] (sp) := by
  obtain ⟨fd, F⟩ := T.d_Machine_record
  exact cal_of F (h fd F) (fun _ _ _ _ _ _ us hl => match us, hl with | [_, _, _], _ => rfl)
theorem cal_Machine_cost {P : Program} {w : World} {K : PySem.W.Frag} {mg : Str → Option Value} {base : Heap} (T : HF K mg) {k : Nat} {sp : Sp} (h : ∀ fd, FN_Machine_cost K fd → FnOk P w K mg base (L2.CX P w) k (He.fAd K ("Machine", some "cost")) fd ["self", "frame", "row"] sp) : Cal P w K mg base (L2.CX P w) (k) (He.fAd K ("Machine", some "cost")) ["self", "frame", "row"] [] (sp) := by
  obtain ⟨fd, F⟩ := T.d_Machine_cost
  exact cal_of F (h fd F) (fun _ _ _ _ _ _ us hl => match us, hl with | [_, _, _], _ => rfl)
theorem cal_Machine_fault {P : Program} {w : World} {K : PySem.W.Frag} {mg : Str → Option Value} {base : Heap} (T : HF K mg) {k : Nat} {sp : Sp} (h : ∀ fd, FN_Machine_fault K fd → FnOk P w K mg base (L2.CX P w) k (He.fAd K ("Machine", some "fault")) fd ["self", "frame", "row"] sp) : Cal P w K mg base (L2.CX P w) (k) (He.fAd K ("Machine", some "fault")) ["self", "frame", "row"] [] (sp) := by
  obtain ⟨fd, F⟩ := T.d_Machine_fault
  exact cal_of F (h fd F) (fun _ _ _ _ _ _ us hl => match us, hl with | [_, _, _], _ => rfl)
theorem cal_Machine_unbegun {P : Program} {w : World} {K : PySem.W.Frag} {mg : Str → Option Value} {base : Heap} (T : HF K mg) {k : Nat} {sp : Sp} (h : ∀ fd, FN_Machine_unbegun K fd → FnOk P w K mg base (L2.CX P w) k (He.fAd K ("Machine", some "unbegun")) fd ["self", "frame", "inner", "slot"] sp) : Cal P w K mg base (L2.CX P w) (k) (He.fAd K ("Machine", some "unbegun")) ["self", "frame", "inner", "slot"] [] (sp) := by
  obtain ⟨fd, F⟩ := T.d_Machine_unbegun
  exact cal_of F (h fd F) (fun _ _ _ _ _ _ us hl => match us, hl with | [_, _, _, _], _ => rfl)
theorem cal_Machine_inner_call {P : Program} {w : World} {K : PySem.W.Frag} {mg : Str → Option Value} {base : Heap} (T : HF K mg) {k : Nat} {sp : Sp} (h : ∀ fd, FN_Machine_inner_call K fd → FnOk P w K mg base (L2.CX P w) k (He.fAd K ("Machine", some "inner_call")) fd ["self", "frame", "kind"] sp) : Cal P w K mg base (L2.CX P w) (k) (He.fAd K ("Machine", some "inner_call")) ["self", "frame", "kind"] [] (sp) := by
  obtain ⟨fd, F⟩ := T.d_Machine_inner_call
  exact cal_of F (h fd F) (fun _ _ _ _ _ _ us hl => match us, hl with | [_, _, _], _ => rfl)
theorem cal_Machine_begin {P : Program} {w : World} {K : PySem.W.Frag} {mg : Str → Option Value} {base : Heap} (T : HF K mg) {k : Nat} {sp : Sp} (h : ∀ fd, FN_Machine_begin K fd → FnOk P w K mg base (L2.CX P w) k (He.fAd K ("Machine", some "begin")) fd ["self", "frame", "kind"] sp) : Cal P w K mg base (L2.CX P w) (k) (He.fAd K ("Machine", some "begin")) ["self", "frame", "kind"] [] (sp) := by
  obtain ⟨fd, F⟩ := T.d_Machine_begin
  exact cal_of F (h fd F) (fun _ _ _ _ _ _ us hl => match us, hl with | [_, _, _], _ => rfl)
theorem cal_Machine_done {P : Program} {w : World} {K : PySem.W.Frag} {mg : Str → Option Value} {base : Heap} (T : HF K mg) {k : Nat} {sp : Sp} (h : ∀ fd, FN_Machine_done K fd → FnOk P w K mg base (L2.CX P w) k (He.fAd K ("Machine", some "done")) fd ["self", "frame", "row"] sp) : Cal P w K mg base (L2.CX P w) (k) (He.fAd K ("Machine", some "done")) ["self", "frame", "row"] [] (sp) := by
  obtain ⟨fd, F⟩ := T.d_Machine_done
  exact cal_of F (h fd F) (fun _ _ _ _ _ _ us hl => match us, hl with | [_, _, _], _ => rfl)
theorem cal_Machine_step {P : Program} {w : World} {K : PySem.W.Frag} {mg : Str → Option Value} {base : Heap} (T : HF K mg) {k : Nat} {sp : Sp} (h : ∀ fd, FN_Machine_step K fd → FnOk P w K mg base (L2.CX P w) k (He.fAd K ("Machine", some "step")) fd ["self", "frame"] sp) : Cal P w K mg base (L2.CX P w) (k) (He.fAd K ("Machine", some "step")) ["self", "frame"] [] (sp) := by
  obtain ⟨fd, F⟩ := T.d_Machine_step
  exact cal_of F (h fd F) (fun _ _ _ _ _ _ us hl => match us, hl with | [_, _], _ => rfl)
theorem cal_Machine_go {P : Program} {w : World} {K : PySem.W.Frag} {mg : Str → Option Value} {base : Heap} (T : HF K mg) {k : Nat} {sp : Sp} (h : ∀ fd, FN_Machine_go K fd → FnOk P w K mg base (L2.CX P w) k (He.fAd K ("Machine", some "go")) fd ["self", "frame"] sp) : Cal P w K mg base (L2.CX P w) (k) (He.fAd K ("Machine", some "go")) ["self", "frame"] [] (sp) := by
  obtain ⟨fd, F⟩ := T.d_Machine_go
  exact cal_of F (h fd F) (fun _ _ _ _ _ _ us hl => match us, hl with | [_, _], _ => rfl)
theorem cal_enter {P : Program} {w : World} {K : PySem.W.Frag} {mg : Str → Option Value} {base : Heap} (T : HF K mg) {k : Nat} {sp : Sp} (h : ∀ fd, FN_enter K fd → FnOk P w K mg base (L2.CX P w) k (He.fAd K ("enter", none)) fd ["rooms", "journal", "caller", "who", "coin", "word", "given"] sp) : Cal P w K mg base (L2.CX P w) (k) (He.fAd K ("enter", none)) ["rooms", "journal", "caller", "who", "coin", "word", "given"] [] (sp) := by
  obtain ⟨fd, F⟩ := T.d_enter
  exact cal_of F (h fd F) (fun _ _ _ _ _ _ us hl => match us, hl with | [_, _, _, _, _, _, _], _ => rfl)
theorem cal_Account_init {P : Program} {w : World} {K : PySem.W.Frag} {mg : Str → Option Value} {base : Heap} (T : HF K mg) {k : Nat} {sp : Sp} (h : ∀ fd, FN_Account_init K fd → FnOk P w K mg base (L2.CX P w) k (He.fAd K ("Account", some "__init__")) fd ["self", "coin", "purse", "program"] sp) : Cal P w K mg base (L2.CX P w) (k) (He.fAd K ("Account", some "__init__")) ["self", "coin", "purse", "program"] [] (sp) := by
  obtain ⟨fd, F⟩ := T.d_Account_init
  exact cal_of F (h fd F) (fun _ _ _ _ _ _ us hl => match us, hl with | [_, _, _, _], _ => rfl)
theorem cal_Account_loaded {P : Program} {w : World} {K : PySem.W.Frag} {mg : Str → Option Value} {base : Heap} (T : HF K mg) {k : Nat} {sp : Sp} (h : ∀ fd, FN_Account_loaded K fd → FnOk P w K mg base (L2.CX P w) k (He.fAd K ("Account", some "loaded")) fd ["self", "place"] sp) : Cal P w K mg base (L2.CX P w) (k) (He.fAd K ("Account", some "loaded")) ["self", "place"] [] (sp) := by
  obtain ⟨fd, F⟩ := T.d_Account_loaded
  exact cal_of F (h fd F) (fun _ _ _ _ _ _ us hl => match us, hl with | [_, _], _ => rfl)
theorem cal_Account_keep {P : Program} {w : World} {K : PySem.W.Frag} {mg : Str → Option Value} {base : Heap} (T : HF K mg) {k : Nat} {sp : Sp} (h : ∀ fd, FN_Account_keep K fd → FnOk P w K mg base (L2.CX P w) k (He.fAd K ("Account", some "keep")) fd ["self", "place", "number"] sp) : Cal P w K mg base (L2.CX P w) (k) (He.fAd K ("Account", some "keep")) ["self", "place", "number"] [] (sp) := by
  obtain ⟨fd, F⟩ := T.d_Account_keep
  exact cal_of F (h fd F) (fun _ _ _ _ _ _ us hl => match us, hl with | [_, _, _], _ => rfl)
theorem cal_Journal_init {P : Program} {w : World} {K : PySem.W.Frag} {mg : Str → Option Value} {base : Heap} (T : HF K mg) {k : Nat} {sp : Sp} (h : ∀ fd, FN_Journal_init K fd → FnOk P w K mg base (L2.CX P w) k (He.fAd K ("Journal", some "__init__")) fd ["self", "rooms"] sp) : Cal P w K mg base (L2.CX P w) (k) (He.fAd K ("Journal", some "__init__")) ["self", "rooms"] [] (sp) := by
  obtain ⟨fd, F⟩ := T.d_Journal_init
  exact cal_of F (h fd F) (fun _ _ _ _ _ _ us hl => match us, hl with | [_, _], _ => rfl)
theorem cal_Journal_write {P : Program} {w : World} {K : PySem.W.Frag} {mg : Str → Option Value} {base : Heap} (T : HF K mg) {k : Nat} {sp : Sp} (h : ∀ fd, FN_Journal_write K fd → FnOk P w K mg base (L2.CX P w) k (He.fAd K ("Journal", some "write")) fd ["self", "deed"] sp) : Cal P w K mg base (L2.CX P w) (k) (He.fAd K ("Journal", some "write")) ["self", "deed"] [] (sp) := by
  obtain ⟨fd, F⟩ := T.d_Journal_write
  exact cal_of F (h fd F) (fun _ _ _ _ _ _ us hl => match us, hl with | [_, _], _ => rfl)
theorem cal_Journal_mark {P : Program} {w : World} {K : PySem.W.Frag} {mg : Str → Option Value} {base : Heap} (T : HF K mg) {k : Nat} {sp : Sp} (h : ∀ fd, FN_Journal_mark K fd → FnOk P w K mg base (L2.CX P w) k (He.fAd K ("Journal", some "mark")) fd ["self"] sp) : Cal P w K mg base (L2.CX P w) (k) (He.fAd K ("Journal", some "mark")) ["self"] [] (sp) := by
  obtain ⟨fd, F⟩ := T.d_Journal_mark
  exact cal_of F (h fd F) (fun _ _ _ _ _ _ us hl => match us, hl with | [_], _ => rfl)
theorem cal_Journal_back {P : Program} {w : World} {K : PySem.W.Frag} {mg : Str → Option Value} {base : Heap} (T : HF K mg) {k : Nat} {sp : Sp} (h : ∀ fd, FN_Journal_back K fd → FnOk P w K mg base (L2.CX P w) k (He.fAd K ("Journal", some "back")) fd ["self", "mark"] sp) : Cal P w K mg base (L2.CX P w) (k) (He.fAd K ("Journal", some "back")) ["self", "mark"] [] (sp) := by
  obtain ⟨fd, F⟩ := T.d_Journal_back
  exact cal_of F (h fd F) (fun _ _ _ _ _ _ us hl => match us, hl with | [_, _], _ => rfl)
theorem cal_Journal_told {P : Program} {w : World} {K : PySem.W.Frag} {mg : Str → Option Value} {base : Heap} (T : HF K mg) {k : Nat} {sp : Sp} (h : ∀ fd, FN_Journal_told K fd → FnOk P w K mg base (L2.CX P w) k (He.fAd K ("Journal", some "told")) fd ["self"] sp) : Cal P w K mg base (L2.CX P w) (k) (He.fAd K ("Journal", some "told")) ["self"] [] (sp) := by
  obtain ⟨fd, F⟩ := T.d_Journal_told
  exact cal_of F (h fd F) (fun _ _ _ _ _ _ us hl => match us, hl with | [_], _ => rfl)
theorem cal_l_cell_at {P : Program} {w : World} {K : PySem.W.Frag} {mg : Str → Option Value} {base : Heap} (T : HF K mg) {k : Nat} {sp : Sp} (h : ∀ fd, FN_l_cell_at K fd → FnOk P w K mg base (L2.CX P w) k (He.fAd K ("_law_cell_at", none)) fd ["_law_script", "_law_k"] sp) : Cal P w K mg base (L2.CX P w) (k) (He.fAd K ("_law_cell_at", none)) ["_law_script", "_law_k"] [] (sp) := by
  obtain ⟨fd, F⟩ := T.d_l_cell_at
  exact cal_of F (h fd F) (fun _ _ _ _ _ _ us hl => match us, hl with | [_, _], _ => rfl)
theorem cal_l_alike {P : Program} {w : World} {K : PySem.W.Frag} {mg : Str → Option Value} {base : Heap} (T : HF K mg) {k : Nat} {sp : Sp} (h : ∀ fd, FN_l_alike K fd → FnOk P w K mg base (L2.CX P w) k (He.fAd K ("_law_alike", none)) fd ["_law_found", "_law_due"] sp) : Cal P w K mg base (L2.CX P w) (k) (He.fAd K ("_law_alike", none)) ["_law_found", "_law_due"] [] (sp) := by
  obtain ⟨fd, F⟩ := T.d_l_alike
  exact cal_of F (h fd F) (fun _ _ _ _ _ _ us hl => match us, hl with | [_, _], _ => rfl)
theorem cal_l_program {P : Program} {w : World} {K : PySem.W.Frag} {mg : Str → Option Value} {base : Heap} (T : HF K mg) {k : Nat} {sp : Sp} (h : ∀ fd, FN_l_program K fd → FnOk P w K mg base (L2.CX P w) k (He.fAd K ("_law_program", none)) fd ["_law_over", "_law_number", "_law_pairs", "_law_last"] sp) : Cal P w K mg base (L2.CX P w) (k) (He.fAd K ("_law_program", none)) ["_law_over", "_law_number", "_law_pairs", "_law_last"] [] (sp) := by
  obtain ⟨fd, F⟩ := T.d_l_program
  exact cal_of F (h fd F) (fun _ _ _ _ _ _ us hl => match us, hl with | [_, _, _, _], _ => rfl)
theorem cal_l_gone {P : Program} {w : World} {K : PySem.W.Frag} {mg : Str → Option Value} {base : Heap} (T : HF K mg) {k : Nat} {sp : Sp} (h : ∀ fd, FN_l_gone K fd → FnOk P w K mg base (L2.CX P w) k (He.fAd K ("_law_gone", none)) fd ["_law_over", "_law_number", "_law_pairs", "_law_most"] sp) : Cal P w K mg base (L2.CX P w) (k) (He.fAd K ("_law_gone", none)) ["_law_over", "_law_number", "_law_pairs", "_law_most"] [] (sp) := by
  obtain ⟨fd, F⟩ := T.d_l_gone
  exact cal_of F (h fd F) (fun _ _ _ _ _ _ us hl => match us, hl with | [_, _, _, _], _ => rfl)
theorem cal_law {P : Program} {w : World} {K : PySem.W.Frag} {mg : Str → Option Value} {base : Heap} (T : HF K mg) {k : Nat} {sp : Sp} (h : ∀ fd, FN_law K fd → FnOk P w K mg base (L2.CX P w) k (He.fAd K ("law", none)) fd ["_law_script"] sp) : Cal P w K mg base (L2.CX P w) (k) (He.fAd K ("law", none)) ["_law_script"] [] (sp) := by
  obtain ⟨fd, F⟩ := T.d_law
  exact cal_of F (h fd F) (fun _ _ _ _ _ _ us hl => match us, hl with | [_], _ => rfl)
theorem cal_Note_do {P : Program} {w : World} {K : PySem.W.Frag} {mg : Str → Option Value} {base : Heap} (T : HF K mg) {k : Nat} {sp : Sp} (h : ∀ fd, FN_Note_do K fd → FnOk P w K mg base (L2.CX P w) k (He.fAd K ("Note", some "do")) fd ["self", "rooms"] sp) : Cal P w K mg base (L2.CX P w) (k) (He.fAd K ("Note", some "do")) ["self", "rooms"] [] (sp) := by
  obtain ⟨fd, F⟩ := T.d_Note_do
  exact cal_of F (h fd F) (fun _ _ _ _ _ _ us hl => match us, hl with | [_, _], _ => rfl)
theorem cal_Note_undo {P : Program} {w : World} {K : PySem.W.Frag} {mg : Str → Option Value} {base : Heap} (T : HF K mg) {k : Nat} {sp : Sp} (h : ∀ fd, FN_Note_undo K fd → FnOk P w K mg base (L2.CX P w) k (He.fAd K ("Note", some "undo")) fd ["self", "rooms"] sp) : Cal P w K mg base (L2.CX P w) (k) (He.fAd K ("Note", some "undo")) ["self", "rooms"] [] (sp) := by
  obtain ⟨fd, F⟩ := T.d_Note_undo
  exact cal_of F (h fd F) (fun _ _ _ _ _ _ us hl => match us, hl with | [_, _], _ => rfl)
theorem ok_Deed_do {P : Program} {w : World} {K : PySem.W.Frag} {mg : Str → Option Value} {base : Heap} {n : Nat} (T : HF K mg) (A : AL P w K mg base n) {fd : FuncData} (F : FN_Deed_do K fd) : FnOk P w K mg base (L2.CX P w) (2 * (n + 1)) (He.fAd K ("Deed", some "do")) fd ["self", "rooms"] (spR PR K (n + 1) "Deed.do") :=
  F.ok (k := 2 * n + 1) sc_Deed_do (fun _ _ _ _ h => spR_len fn_Deed_do h) fun cdv A0 outer s H vs Q E hr1 h => by
    have hr : Room (2 * n) (A0.deeper (envOfC "Deed.do" (defScope st_Deed_do) s.heap.objs.size (He.fAd K ("Deed", some "do")) cdv)) := hr1.mono (Nat.le_succ _)
    have hu := hr.units
    have nd := sc_Deed_do.nd
    have zo : PassesOwn (model P w) (cxOf (L2.CX P w) P w K mg base ["self", "rooms"] "Deed.do" (defScope st_Deed_do) (He.fAd K ("Deed", some "do")) cdv A0 outer s H E).A (cxOf (L2.CX P w) P w K mg base ["self", "rooms"] "Deed.do" (defScope st_Deed_do) (He.fAd K ("Deed", some "do")) cdv A0 outer s H E).env (cxOf (L2.CX P w) P w K mg base ["self", "rooms"] "Deed.do" (defScope st_Deed_do) (He.fAd K ("Deed", some "do")) cdv A0 outer s H E).xe := passes_of rfl
    have zt : Takes (cxOf (L2.CX P w) P w K mg base ["self", "rooms"] "Deed.do" (defScope st_Deed_do) (He.fAd K ("Deed", some "do")) cdv A0 outer s H E) (fun cls d _ H => E cls d H) := takes_of rfl rfl rfl rfl
    exact ⟨rdS (rc PR K (gv K) n fun cls d _ H => E cls d H) F_Deed_do.body, (pss_one (ps_ret (pe_non))), body_ok (facts T) fn_Deed_do rfl h⟩
theorem ok_Deed_undo {P : Program} {w : World} {K : PySem.W.Frag} {mg : Str → Option Value} {base : Heap} {n : Nat} (T : HF K mg) (A : AL P w K mg base n) {fd : FuncData} (F : FN_Deed_undo K fd) : FnOk P w K mg base (L2.CX P w) (2 * (n + 1)) (He.fAd K ("Deed", some "undo")) fd ["self", "rooms"] (spR PR K (n + 1) "Deed.undo") :=
  F.ok (k := 2 * n + 1) sc_Deed_undo (fun _ _ _ _ h => spR_len fn_Deed_undo h) fun cdv A0 outer s H vs Q E hr1 h => by
    have hr : Room (2 * n) (A0.deeper (envOfC "Deed.undo" (defScope st_Deed_undo) s.heap.objs.size (He.fAd K ("Deed", some "undo")) cdv)) := hr1.mono (Nat.le_succ _)
    have hu := hr.units
    have nd := sc_Deed_undo.nd
    have zo : PassesOwn (model P w) (cxOf (L2.CX P w) P w K mg base ["self", "rooms"] "Deed.undo" (defScope st_Deed_undo) (He.fAd K ("Deed", some "undo")) cdv A0 outer s H E).A (cxOf (L2.CX P w) P w K mg base ["self", "rooms"] "Deed.undo" (defScope st_Deed_undo) (He.fAd K ("Deed", some "undo")) cdv A0 outer s H E).env (cxOf (L2.CX P w) P w K mg base ["self", "rooms"] "Deed.undo" (defScope st_Deed_undo) (He.fAd K ("Deed", some "undo")) cdv A0 outer s H E).xe := passes_of rfl
    have zt : Takes (cxOf (L2.CX P w) P w K mg base ["self", "rooms"] "Deed.undo" (defScope st_Deed_undo) (He.fAd K ("Deed", some "undo")) cdv A0 outer s H E) (fun cls d _ H => E cls d H) := takes_of rfl rfl rfl rfl
    exact ⟨rdS (rc PR K (gv K) n fun cls d _ H => E cls d H) F_Deed_undo.body, (pss_one (ps_ret (pe_non))), body_ok (facts T) fn_Deed_undo rfl h⟩
theorem ok_Deed_told {P : Program} {w : World} {K : PySem.W.Frag} {mg : Str → Option Value} {base : Heap} {n : Nat} (T : HF K mg) (A : AL P w K mg base n) {fd : FuncData} (F : FN_Deed_told K fd) : FnOk P w K mg base (L2.CX P w) (2 * (n + 1)) (He.fAd K ("Deed", some "told")) fd ["self"] (spR PR K (n + 1) "Deed.told") :=
  F.ok (k := 2 * n + 1) sc_Deed_told (fun _ _ _ _ h => spR_len fn_Deed_told h) fun cdv A0 outer s H vs Q E hr1 h => by
    have hr : Room (2 * n) (A0.deeper (envOfC "Deed.told" (defScope st_Deed_told) s.heap.objs.size (He.fAd K ("Deed", some "told")) cdv)) := hr1.mono (Nat.le_succ _)
    have hu := hr.units
    have nd := sc_Deed_told.nd
    have zo : PassesOwn (model P w) (cxOf (L2.CX P w) P w K mg base ["self"] "Deed.told" (defScope st_Deed_told) (He.fAd K ("Deed", some "told")) cdv A0 outer s H E).A (cxOf (L2.CX P w) P w K mg base ["self"] "Deed.told" (defScope st_Deed_told) (He.fAd K ("Deed", some "told")) cdv A0 outer s H E).env (cxOf (L2.CX P w) P w K mg base ["self"] "Deed.told" (defScope st_Deed_told) (He.fAd K ("Deed", some "told")) cdv A0 outer s H E).xe := passes_of rfl
    have zt : Takes (cxOf (L2.CX P w) P w K mg base ["self"] "Deed.told" (defScope st_Deed_told) (He.fAd K ("Deed", some "told")) cdv A0 outer s H E) (fun cls d _ H => E cls d H) := takes_of rfl rfl rfl rfl
    exact ⟨rdS (rc PR K (gv K) n fun cls d _ H => E cls d H) F_Deed_told.body, (pss_one (ps_ret (pe_tup (pa_cons (pe_str) (pa_nil))))), body_ok (facts T) fn_Deed_told rfl h⟩
theorem ok_Save_init {P : Program} {w : World} {K : PySem.W.Frag} {mg : Str → Option Value} {base : Heap} {n : Nat} (T : HF K mg) (A : AL P w K mg base n) {fd : FuncData} (F : FN_Save_init K fd) : FnOk P w K mg base (L2.CX P w) (2 * (n + 1)) (He.fAd K ("Save", some "__init__")) fd ["self", "slot", "place", "old", "new"] (spR PR K (n + 1) "Save.__init__") :=
  F.ok (k := 2 * n + 1) sc_Save_init (fun _ _ _ _ h => spR_len fn_Save_init h) fun cdv A0 outer s H vs Q E hr1 h => by
    have hr : Room (2 * n) (A0.deeper (envOfC "Save.__init__" (defScope st_Save_init) s.heap.objs.size (He.fAd K ("Save", some "__init__")) cdv)) := hr1.mono (Nat.le_succ _)
    have hu := hr.units
    have nd := sc_Save_init.nd
    have zo : PassesOwn (model P w) (cxOf (L2.CX P w) P w K mg base ["self", "slot", "place", "old", "new"] "Save.__init__" (defScope st_Save_init) (He.fAd K ("Save", some "__init__")) cdv A0 outer s H E).A (cxOf (L2.CX P w) P w K mg base ["self", "slot", "place", "old", "new"] "Save.__init__" (defScope st_Save_init) (He.fAd K ("Save", some "__init__")) cdv A0 outer s H E).env (cxOf (L2.CX P w) P w K mg base ["self", "slot", "place", "old", "new"] "Save.__init__" (defScope st_Save_init) (He.fAd K ("Save", some "__init__")) cdv A0 outer s H E).xe := passes_of rfl
    have zt : Takes (cxOf (L2.CX P w) P w K mg base ["self", "slot", "place", "old", "new"] "Save.__init__" (defScope st_Save_init) (He.fAd K ("Save", some "__init__")) cdv A0 outer s H E) (fun cls d _ H => E cls d H) := takes_of rfl rfl rfl rfl
    exact ⟨rdS (rc PR K (gv K) n fun cls d _ H => E cls d H) F_Save_init.body, (pss_cons (ps_fld (pv 0) (pv 1) rfl) (pss_cons (ps_fld (pv 0) (pv 2) rfl) (pss_cons (ps_fld (pv 0) (pv 3) rfl) (pss_one (ps_fld (pv 0) (pv 4) rfl))))), body_ok (facts T) fn_Save_init rfl h⟩
theorem ok_Save_do {P : Program} {w : World} {K : PySem.W.Frag} {mg : Str → Option Value} {base : Heap} {n : Nat} (T : HF K mg) (A : AL P w K mg base n) {fd : FuncData} (F : FN_Save_do K fd) : FnOk P w K mg base (L2.CX P w) (2 * (n + 1)) (He.fAd K ("Save", some "do")) fd ["self", "rooms"] (spR PR K (n + 1) "Save.do") :=
  F.ok (k := 2 * n + 1) sc_Save_do (fun _ _ _ _ h => spR_len fn_Save_do h) fun cdv A0 outer s H vs Q E hr1 h => by
    have hr : Room (2 * n) (A0.deeper (envOfC "Save.do" (defScope st_Save_do) s.heap.objs.size (He.fAd K ("Save", some "do")) cdv)) := hr1.mono (Nat.le_succ _)
    have hu := hr.units
    have nd := sc_Save_do.nd
    have zo : PassesOwn (model P w) (cxOf (L2.CX P w) P w K mg base ["self", "rooms"] "Save.do" (defScope st_Save_do) (He.fAd K ("Save", some "do")) cdv A0 outer s H E).A (cxOf (L2.CX P w) P w K mg base ["self", "rooms"] "Save.do" (defScope st_Save_do) (He.fAd K ("Save", some "do")) cdv A0 outer s H E).env (cxOf (L2.CX P w) P w K mg base ["self", "rooms"] "Save.do" (defScope st_Save_do) (He.fAd K ("Save", some "do")) cdv A0 outer s H E).xe := passes_of rfl
    have zt : Takes (cxOf (L2.CX P w) P w K mg base ["self", "rooms"] "Save.do" (defScope st_Save_do) (He.fAd K ("Save", some "do")) cdv A0 outer s H E) (fun cls d _ H => E cls d H) := takes_of rfl rfl rfl rfl
    exact ⟨rdS (rc PR K (gv K) n fun cls d _ H => E cls d H) F_Save_do.body, (pss_one (ps_expr (zmeth (pe_ix ix_seq (pv 1) (pe_fld (pv 0) rfl) (fun _ _ => rfl)) (A.m_keep_0) hr zpD (pa_cons (pe_fld (pv 0) rfl) (pa_cons (pe_fld (pv 0) rfl) (pa_nil)))))), body_ok (facts T) fn_Save_do rfl h⟩
theorem ok_Save_undo {P : Program} {w : World} {K : PySem.W.Frag} {mg : Str → Option Value} {base : Heap} {n : Nat} (T : HF K mg) (A : AL P w K mg base n) {fd : FuncData} (F : FN_Save_undo K fd) : FnOk P w K mg base (L2.CX P w) (2 * (n + 1)) (He.fAd K ("Save", some "undo")) fd ["self", "rooms"] (spR PR K (n + 1) "Save.undo") :=
  F.ok (k := 2 * n + 1) sc_Save_undo (fun _ _ _ _ h => spR_len fn_Save_undo h) fun cdv A0 outer s H vs Q E hr1 h => by
    have hr : Room (2 * n) (A0.deeper (envOfC "Save.undo" (defScope st_Save_undo) s.heap.objs.size (He.fAd K ("Save", some "undo")) cdv)) := hr1.mono (Nat.le_succ _)
    have hu := hr.units
    have nd := sc_Save_undo.nd
    have zo : PassesOwn (model P w) (cxOf (L2.CX P w) P w K mg base ["self", "rooms"] "Save.undo" (defScope st_Save_undo) (He.fAd K ("Save", some "undo")) cdv A0 outer s H E).A (cxOf (L2.CX P w) P w K mg base ["self", "rooms"] "Save.undo" (defScope st_Save_undo) (He.fAd K ("Save", some "undo")) cdv A0 outer s H E).env (cxOf (L2.CX P w) P w K mg base ["self", "rooms"] "Save.undo" (defScope st_Save_undo) (He.fAd K ("Save", some "undo")) cdv A0 outer s H E).xe := passes_of rfl
    have zt : Takes (cxOf (L2.CX P w) P w K mg base ["self", "rooms"] "Save.undo" (defScope st_Save_undo) (He.fAd K ("Save", some "undo")) cdv A0 outer s H E) (fun cls d _ H => E cls d H) := takes_of rfl rfl rfl rfl
    exact ⟨rdS (rc PR K (gv K) n fun cls d _ H => E cls d H) F_Save_undo.body, (pss_one (ps_expr (zmeth (pe_ix ix_seq (pv 1) (pe_fld (pv 0) rfl) (fun _ _ => rfl)) (A.m_keep_0) hr zpD (pa_cons (pe_fld (pv 0) rfl) (pa_cons (pe_fld (pv 0) rfl) (pa_nil)))))), body_ok (facts T) fn_Save_undo rfl h⟩
theorem ok_Save_told {P : Program} {w : World} {K : PySem.W.Frag} {mg : Str → Option Value} {base : Heap} {n : Nat} (T : HF K mg) (A : AL P w K mg base n) {fd : FuncData} (F : FN_Save_told K fd) : FnOk P w K mg base (L2.CX P w) (2 * (n + 1)) (He.fAd K ("Save", some "told")) fd ["self"] (spR PR K (n + 1) "Save.told") :=
  F.ok (k := 2 * n + 1) sc_Save_told (fun _ _ _ _ h => spR_len fn_Save_told h) fun cdv A0 outer s H vs Q E hr1 h => by
    have hr : Room (2 * n) (A0.deeper (envOfC "Save.told" (defScope st_Save_told) s.heap.objs.size (He.fAd K ("Save", some "told")) cdv)) := hr1.mono (Nat.le_succ _)
    have hu := hr.units
    have nd := sc_Save_told.nd
    have zo : PassesOwn (model P w) (cxOf (L2.CX P w) P w K mg base ["self"] "Save.told" (defScope st_Save_told) (He.fAd K ("Save", some "told")) cdv A0 outer s H E).A (cxOf (L2.CX P w) P w K mg base ["self"] "Save.told" (defScope st_Save_told) (He.fAd K ("Save", some "told")) cdv A0 outer s H E).env (cxOf (L2.CX P w) P w K mg base ["self"] "Save.told" (defScope st_Save_told) (He.fAd K ("Save", some "told")) cdv A0 outer s H E).xe := passes_of rfl
    have zt : Takes (cxOf (L2.CX P w) P w K mg base ["self"] "Save.told" (defScope st_Save_told) (He.fAd K ("Save", some "told")) cdv A0 outer s H E) (fun cls d _ H => E cls d H) := takes_of rfl rfl rfl rfl
    exact ⟨rdS (rc PR K (gv K) n fun cls d _ H => E cls d H) F_Save_told.body, (pss_one (ps_ret (pe_tup (pa_cons (pe_str) (pa_cons (pe_fld (pv 0) rfl) (pa_cons (pe_fld (pv 0) rfl) (pa_cons (pe_fld (pv 0) rfl) (pa_cons (pe_fld (pv 0) rfl) (pa_nil))))))))), body_ok (facts T) fn_Save_told rfl h⟩
theorem ok_carry {P : Program} {w : World} {K : PySem.W.Frag} {mg : Str → Option Value} {base : Heap} {n : Nat} (T : HF K mg) (A : AL P w K mg base n) {fd : FuncData} (F : FN_carry K fd) : FnOk P w K mg base (L2.CX P w) (2 * (n + 1)) (He.fAd K ("carry", none)) fd ["rooms", "slot", "taker", "many"] (spR PR K (n + 1) "carry") :=
  F.ok (k := 2 * n + 1) sc_carry (fun _ _ _ _ h => spR_len fn_carry h) fun cdv A0 outer s H vs Q E hr1 h => by
    have hr : Room (2 * n) (A0.deeper (envOfC "carry" (defScope st_carry) s.heap.objs.size (He.fAd K ("carry", none)) cdv)) := hr1.mono (Nat.le_succ _)
    have hu := hr.units
    have nd := sc_carry.nd
    have zo : PassesOwn (model P w) (cxOf (L2.CX P w) P w K mg base ["rooms", "slot", "taker", "many", "giver", "getter"] "carry" (defScope st_carry) (He.fAd K ("carry", none)) cdv A0 outer s H E).A (cxOf (L2.CX P w) P w K mg base ["rooms", "slot", "taker", "many", "giver", "getter"] "carry" (defScope st_carry) (He.fAd K ("carry", none)) cdv A0 outer s H E).env (cxOf (L2.CX P w) P w K mg base ["rooms", "slot", "taker", "many", "giver", "getter"] "carry" (defScope st_carry) (He.fAd K ("carry", none)) cdv A0 outer s H E).xe := passes_of rfl
    have zt : Takes (cxOf (L2.CX P w) P w K mg base ["rooms", "slot", "taker", "many", "giver", "getter"] "carry" (defScope st_carry) (He.fAd K ("carry", none)) cdv A0 outer s H E) (fun cls d _ H => E cls d H) := takes_of rfl rfl rfl rfl
    exact ⟨rdS (rc PR K (gv K) n fun cls d _ H => E cls d H) F_carry.body, (pss_cons (zset 4 nd (pe_ix ix_seq (pv 0) (pv 1) (fun _ _ => rfl))) (pss_cons (ps_fld (pv 4) (pe_op z_sub (pe_fld (pv 4) rfl) (pv 3)) rfl) (pss_cons (zset 5 nd (pe_ix ix_seq (pv 0) (pv 2) (fun _ _ => rfl))) (pss_one (ps_fld (pv 5) (pe_op z_add (pe_fld (pv 5) rfl) (pv 3)) rfl))))), body_ok (facts T) fn_carry rfl h⟩
theorem ok_Move_init {P : Program} {w : World} {K : PySem.W.Frag} {mg : Str → Option Value} {base : Heap} {n : Nat} (T : HF K mg) (A : AL P w K mg base n) {fd : FuncData} (F : FN_Move_init K fd) : FnOk P w K mg base (L2.CX P w) (2 * (n + 1)) (He.fAd K ("Move", some "__init__")) fd ["self", "slot", "taker", "many"] (spR PR K (n + 1) "Move.__init__") :=
  F.ok (k := 2 * n + 1) sc_Move_init (fun _ _ _ _ h => spR_len fn_Move_init h) fun cdv A0 outer s H vs Q E hr1 h => by
    have hr : Room (2 * n) (A0.deeper (envOfC "Move.__init__" (defScope st_Move_init) s.heap.objs.size (He.fAd K ("Move", some "__init__")) cdv)) := hr1.mono (Nat.le_succ _)
    have hu := hr.units
    have nd := sc_Move_init.nd
    have zo : PassesOwn (model P w) (cxOf (L2.CX P w) P w K mg base ["self", "slot", "taker", "many"] "Move.__init__" (defScope st_Move_init) (He.fAd K ("Move", some "__init__")) cdv A0 outer s H E).A (cxOf (L2.CX P w) P w K mg base ["self", "slot", "taker", "many"] "Move.__init__" (defScope st_Move_init) (He.fAd K ("Move", some "__init__")) cdv A0 outer s H E).env (cxOf (L2.CX P w) P w K mg base ["self", "slot", "taker", "many"] "Move.__init__" (defScope st_Move_init) (He.fAd K ("Move", some "__init__")) cdv A0 outer s H E).xe := passes_of rfl
    have zt : Takes (cxOf (L2.CX P w) P w K mg base ["self", "slot", "taker", "many"] "Move.__init__" (defScope st_Move_init) (He.fAd K ("Move", some "__init__")) cdv A0 outer s H E) (fun cls d _ H => E cls d H) := takes_of rfl rfl rfl rfl
    exact ⟨rdS (rc PR K (gv K) n fun cls d _ H => E cls d H) F_Move_init.body, (pss_cons (ps_fld (pv 0) (pv 1) rfl) (pss_cons (ps_fld (pv 0) (pv 2) rfl) (pss_one (ps_fld (pv 0) (pv 3) rfl)))), body_ok (facts T) fn_Move_init rfl h⟩
theorem ok_Move_do {P : Program} {w : World} {K : PySem.W.Frag} {mg : Str → Option Value} {base : Heap} {n : Nat} (T : HF K mg) (A : AL P w K mg base n) {fd : FuncData} (F : FN_Move_do K fd) : FnOk P w K mg base (L2.CX P w) (2 * (n + 1)) (He.fAd K ("Move", some "do")) fd ["self", "rooms"] (spR PR K (n + 1) "Move.do") :=
  F.ok (k := 2 * n + 1) sc_Move_do (fun _ _ _ _ h => spR_len fn_Move_do h) fun cdv A0 outer s H vs Q E hr1 h => by
    have hr : Room (2 * n) (A0.deeper (envOfC "Move.do" (defScope st_Move_do) s.heap.objs.size (He.fAd K ("Move", some "do")) cdv)) := hr1.mono (Nat.le_succ _)
    have hu := hr.units
    have nd := sc_Move_do.nd
    have zo : PassesOwn (model P w) (cxOf (L2.CX P w) P w K mg base ["self", "rooms"] "Move.do" (defScope st_Move_do) (He.fAd K ("Move", some "do")) cdv A0 outer s H E).A (cxOf (L2.CX P w) P w K mg base ["self", "rooms"] "Move.do" (defScope st_Move_do) (He.fAd K ("Move", some "do")) cdv A0 outer s H E).env (cxOf (L2.CX P w) P w K mg base ["self", "rooms"] "Move.do" (defScope st_Move_do) (He.fAd K ("Move", some "do")) cdv A0 outer s H E).xe := passes_of rfl
    have zt : Takes (cxOf (L2.CX P w) P w K mg base ["self", "rooms"] "Move.do" (defScope st_Move_do) (He.fAd K ("Move", some "do")) cdv A0 outer s H E) (fun cls d _ H => E cls d H) := takes_of rfl rfl rfl rfl
    exact ⟨rdS (rc PR K (gv K) n fun cls d _ H => E cls d H) F_Move_do.body, (pss_one (ps_expr (zcall (A.carry) hr rfl T.g_carry zpD (pa_cons (pv 1) (pa_cons (pe_fld (pv 0) rfl) (pa_cons (pe_fld (pv 0) rfl) (pa_cons (pe_fld (pv 0) rfl) (pa_nil)))))))), body_ok (facts T) fn_Move_do rfl h⟩
theorem ok_Move_undo {P : Program} {w : World} {K : PySem.W.Frag} {mg : Str → Option Value} {base : Heap} {n : Nat} (T : HF K mg) (A : AL P w K mg base n) {fd : FuncData} (F : FN_Move_undo K fd) : FnOk P w K mg base (L2.CX P w) (2 * (n + 1)) (He.fAd K ("Move", some "undo")) fd ["self", "rooms"] (spR PR K (n + 1) "Move.undo") :=
  F.ok (k := 2 * n + 1) sc_Move_undo (fun _ _ _ _ h => spR_len fn_Move_undo h) fun cdv A0 outer s H vs Q E hr1 h => by
    have hr : Room (2 * n) (A0.deeper (envOfC "Move.undo" (defScope st_Move_undo) s.heap.objs.size (He.fAd K ("Move", some "undo")) cdv)) := hr1.mono (Nat.le_succ _)
    have hu := hr.units
    have nd := sc_Move_undo.nd
    have zo : PassesOwn (model P w) (cxOf (L2.CX P w) P w K mg base ["self", "rooms"] "Move.undo" (defScope st_Move_undo) (He.fAd K ("Move", some "undo")) cdv A0 outer s H E).A (cxOf (L2.CX P w) P w K mg base ["self", "rooms"] "Move.undo" (defScope st_Move_undo) (He.fAd K ("Move", some "undo")) cdv A0 outer s H E).env (cxOf (L2.CX P w) P w K mg base ["self", "rooms"] "Move.undo" (defScope st_Move_undo) (He.fAd K ("Move", some "undo")) cdv A0 outer s H E).xe := passes_of rfl
    have zt : Takes (cxOf (L2.CX P w) P w K mg base ["self", "rooms"] "Move.undo" (defScope st_Move_undo) (He.fAd K ("Move", some "undo")) cdv A0 outer s H E) (fun cls d _ H => E cls d H) := takes_of rfl rfl rfl rfl
    exact ⟨rdS (rc PR K (gv K) n fun cls d _ H => E cls d H) F_Move_undo.body, (pss_one (ps_expr (zcall (A.carry) hr rfl T.g_carry zpD (pa_cons (pv 1) (pa_cons (pe_fld (pv 0) rfl) (pa_cons (pe_fld (pv 0) rfl) (pa_cons (pe_fld (pv 0) rfl) (pa_nil)))))))), body_ok (facts T) fn_Move_undo rfl h⟩
theorem ok_Move_told {P : Program} {w : World} {K : PySem.W.Frag} {mg : Str → Option Value} {base : Heap} {n : Nat} (T : HF K mg) (A : AL P w K mg base n) {fd : FuncData} (F : FN_Move_told K fd) : FnOk P w K mg base (L2.CX P w) (2 * (n + 1)) (He.fAd K ("Move", some "told")) fd ["self"] (spR PR K (n + 1) "Move.told") :=
  F.ok (k := 2 * n + 1) sc_Move_told (fun _ _ _ _ h => spR_len fn_Move_told h) fun cdv A0 outer s H vs Q E hr1 h => by
    have hr : Room (2 * n) (A0.deeper (envOfC "Move.told" (defScope st_Move_told) s.heap.objs.size (He.fAd K ("Move", some "told")) cdv)) := hr1.mono (Nat.le_succ _)
    have hu := hr.units
    have nd := sc_Move_told.nd
    have zo : PassesOwn (model P w) (cxOf (L2.CX P w) P w K mg base ["self"] "Move.told" (defScope st_Move_told) (He.fAd K ("Move", some "told")) cdv A0 outer s H E).A (cxOf (L2.CX P w) P w K mg base ["self"] "Move.told" (defScope st_Move_told) (He.fAd K ("Move", some "told")) cdv A0 outer s H E).env (cxOf (L2.CX P w) P w K mg base ["self"] "Move.told" (defScope st_Move_told) (He.fAd K ("Move", some "told")) cdv A0 outer s H E).xe := passes_of rfl
    have zt : Takes (cxOf (L2.CX P w) P w K mg base ["self"] "Move.told" (defScope st_Move_told) (He.fAd K ("Move", some "told")) cdv A0 outer s H E) (fun cls d _ H => E cls d H) := takes_of rfl rfl rfl rfl
    exact ⟨rdS (rc PR K (gv K) n fun cls d _ H => E cls d H) F_Move_told.body, (pss_one (ps_ret (pe_tup (pa_cons (pe_str) (pa_cons (pe_fld (pv 0) rfl) (pa_cons (pe_fld (pv 0) rfl) (pa_cons (pe_fld (pv 0) rfl) (pa_nil)))))))), body_ok (facts T) fn_Move_told rfl h⟩
theorem ok_Note_init {P : Program} {w : World} {K : PySem.W.Frag} {mg : Str → Option Value} {base : Heap} {n : Nat} (T : HF K mg) (A : AL P w K mg base n) {fd : FuncData} (F : FN_Note_init K fd) : FnOk P w K mg base (L2.CX P w) (2 * (n + 1)) (He.fAd K ("Note", some "__init__")) fd ["self", "slot", "number"] (spR PR K (n + 1) "Note.__init__") :=
  F.ok (k := 2 * n + 1) sc_Note_init (fun _ _ _ _ h => spR_len fn_Note_init h) fun cdv A0 outer s H vs Q E hr1 h => by
    have hr : Room (2 * n) (A0.deeper (envOfC "Note.__init__" (defScope st_Note_init) s.heap.objs.size (He.fAd K ("Note", some "__init__")) cdv)) := hr1.mono (Nat.le_succ _)
    have hu := hr.units
    have nd := sc_Note_init.nd
    have zo : PassesOwn (model P w) (cxOf (L2.CX P w) P w K mg base ["self", "slot", "number"] "Note.__init__" (defScope st_Note_init) (He.fAd K ("Note", some "__init__")) cdv A0 outer s H E).A (cxOf (L2.CX P w) P w K mg base ["self", "slot", "number"] "Note.__init__" (defScope st_Note_init) (He.fAd K ("Note", some "__init__")) cdv A0 outer s H E).env (cxOf (L2.CX P w) P w K mg base ["self", "slot", "number"] "Note.__init__" (defScope st_Note_init) (He.fAd K ("Note", some "__init__")) cdv A0 outer s H E).xe := passes_of rfl
    have zt : Takes (cxOf (L2.CX P w) P w K mg base ["self", "slot", "number"] "Note.__init__" (defScope st_Note_init) (He.fAd K ("Note", some "__init__")) cdv A0 outer s H E) (fun cls d _ H => E cls d H) := takes_of rfl rfl rfl rfl
    exact ⟨rdS (rc PR K (gv K) n fun cls d _ H => E cls d H) F_Note_init.body, (pss_cons (ps_fld (pv 0) (pv 1) rfl) (pss_one (ps_fld (pv 0) (pv 2) rfl))), body_ok (facts T) fn_Note_init rfl h⟩
theorem ok_Note_told {P : Program} {w : World} {K : PySem.W.Frag} {mg : Str → Option Value} {base : Heap} {n : Nat} (T : HF K mg) (A : AL P w K mg base n) {fd : FuncData} (F : FN_Note_told K fd) : FnOk P w K mg base (L2.CX P w) (2 * (n + 1)) (He.fAd K ("Note", some "told")) fd ["self"] (spR PR K (n + 1) "Note.told") :=
  F.ok (k := 2 * n + 1) sc_Note_told (fun _ _ _ _ h => spR_len fn_Note_told h) fun cdv A0 outer s H vs Q E hr1 h => by
    have hr : Room (2 * n) (A0.deeper (envOfC "Note.told" (defScope st_Note_told) s.heap.objs.size (He.fAd K ("Note", some "told")) cdv)) := hr1.mono (Nat.le_succ _)
    have hu := hr.units
    have nd := sc_Note_told.nd
    have zo : PassesOwn (model P w) (cxOf (L2.CX P w) P w K mg base ["self"] "Note.told" (defScope st_Note_told) (He.fAd K ("Note", some "told")) cdv A0 outer s H E).A (cxOf (L2.CX P w) P w K mg base ["self"] "Note.told" (defScope st_Note_told) (He.fAd K ("Note", some "told")) cdv A0 outer s H E).env (cxOf (L2.CX P w) P w K mg base ["self"] "Note.told" (defScope st_Note_told) (He.fAd K ("Note", some "told")) cdv A0 outer s H E).xe := passes_of rfl
    have zt : Takes (cxOf (L2.CX P w) P w K mg base ["self"] "Note.told" (defScope st_Note_told) (He.fAd K ("Note", some "told")) cdv A0 outer s H E) (fun cls d _ H => E cls d H) := takes_of rfl rfl rfl rfl
    exact ⟨rdS (rc PR K (gv K) n fun cls d _ H => E cls d H) F_Note_told.body, (pss_one (ps_ret (pe_tup (pa_cons (pe_str) (pa_cons (pe_fld (pv 0) rfl) (pa_cons (pe_fld (pv 0) rfl) (pa_nil))))))), body_ok (facts T) fn_Note_told rfl h⟩
theorem ok_reckons {P : Program} {w : World} {K : PySem.W.Frag} {mg : Str → Option Value} {base : Heap} {n : Nat} (T : HF K mg) (A : AL P w K mg base n) {fd : FuncData} (F : FN_reckons K fd) : FnOk P w K mg base (L2.CX P w) (2 * (n + 1)) (He.fAd K ("reckons", none)) fd ["word"] (spR PR K (n + 1) "reckons") :=
  F.ok (k := 2 * n + 1) sc_reckons (fun _ _ _ _ h => spR_len fn_reckons h) fun cdv A0 outer s H vs Q E hr1 h => by
    have hr : Room (2 * n) (A0.deeper (envOfC "reckons" (defScope st_reckons) s.heap.objs.size (He.fAd K ("reckons", none)) cdv)) := hr1.mono (Nat.le_succ _)
    have hu := hr.units
    have nd := sc_reckons.nd
    have zo : PassesOwn (model P w) (cxOf (L2.CX P w) P w K mg base ["word"] "reckons" (defScope st_reckons) (He.fAd K ("reckons", none)) cdv A0 outer s H E).A (cxOf (L2.CX P w) P w K mg base ["word"] "reckons" (defScope st_reckons) (He.fAd K ("reckons", none)) cdv A0 outer s H E).env (cxOf (L2.CX P w) P w K mg base ["word"] "reckons" (defScope st_reckons) (He.fAd K ("reckons", none)) cdv A0 outer s H E).xe := passes_of rfl
    have zt : Takes (cxOf (L2.CX P w) P w K mg base ["word"] "reckons" (defScope st_reckons) (He.fAd K ("reckons", none)) cdv A0 outer s H E) (fun cls d _ H => E cls d H) := takes_of rfl rfl rfl rfl
    exact ⟨rdS (rc PR K (gv K) n fun cls d _ H => E cls d H) F_reckons.body, (pss_one (ps_ret (pe_cmpR (z_in hu) (pv 0) (pe_slice z_slice (zglo T.k_WORDS) (po_some (pe_int)) (po_some (pe_int))) (by rfl)))), body_ok (facts T) fn_reckons rfl h⟩
theorem ok_takes {P : Program} {w : World} {K : PySem.W.Frag} {mg : Str → Option Value} {base : Heap} {n : Nat} (T : HF K mg) (A : AL P w K mg base n) {fd : FuncData} (F : FN_takes K fd) : FnOk P w K mg base (L2.CX P w) (2 * (n + 1)) (He.fAd K ("takes", none)) fd ["row"] (spR PR K (n + 1) "takes") :=
  F.ok (k := 2 * n + 1) sc_takes (fun _ _ _ _ h => spR_len fn_takes h) fun cdv A0 outer s H vs Q E hr1 h => by
    have hr : Room (2 * n) (A0.deeper (envOfC "takes" (defScope st_takes) s.heap.objs.size (He.fAd K ("takes", none)) cdv)) := hr1.mono (Nat.le_succ _)
    have hu := hr.units
    have nd := sc_takes.nd
    have zo : PassesOwn (model P w) (cxOf (L2.CX P w) P w K mg base ["row", "word"] "takes" (defScope st_takes) (He.fAd K ("takes", none)) cdv A0 outer s H E).A (cxOf (L2.CX P w) P w K mg base ["row", "word"] "takes" (defScope st_takes) (He.fAd K ("takes", none)) cdv A0 outer s H E).env (cxOf (L2.CX P w) P w K mg base ["row", "word"] "takes" (defScope st_takes) (He.fAd K ("takes", none)) cdv A0 outer s H E).xe := passes_of rfl
    have zt : Takes (cxOf (L2.CX P w) P w K mg base ["row", "word"] "takes" (defScope st_takes) (He.fAd K ("takes", none)) cdv A0 outer s H E) (fun cls d _ H => E cls d H) := takes_of rfl rfl rfl rfl
    exact ⟨rdS (rc PR K (gv K) n fun cls d _ H => E cls d H) F_takes.body, (pss_cons (zset 1 nd (pe_ix ix_seq (pv 0) (pe_int) (fun _ _ => rfl))) (pss_cons (ps_if (PW.pt (pw_or (pt_cmpR (z_eq hu) (pv 1) (pe_str) (nomark _)) (pw_or1 (pt_cmpR (z_eq hu) (pv 1) (pe_str) (nomark _))))) (pss_one (ps_ret (pe_op z_add (pe_ix ix_seq (pv 0) (pe_int) (fun _ _ => rfl)) (pe_int)))) (pss_nil)) (pss_cons (ps_if (pt_cmpR (z_in hu) (pv 1) (pe_tup (pa_cons (pe_str) (pa_cons (pe_str) (pa_cons (pe_str) (pa_cons (pe_str) (pa_cons (pe_str) (pa_cons (pe_str) (pa_nil)))))))) (by rfl)) (pss_one (ps_ret (pe_int))) (pss_nil)) (pss_cons (ps_if (PW.pt (pw_or (pt_cmpR (z_eq hu) (pv 1) (pe_str) (nomark _)) (pw_or1 (ztru (zcall (A.reckons) hr rfl T.g_reckons zpD (pa_cons (pv 1) (pa_nil))))))) (pss_one (ps_ret (pe_int))) (pss_nil)) (pss_cons (ps_if (pt_cmpR (z_eq hu) (pv 1) (pe_str) (nomark _)) (pss_one (ps_ret (pe_int))) (pss_nil)) (pss_cons (ps_if (PW.pt (pw_or (pt_cmpR (z_eq hu) (pv 1) (pe_str) (nomark _)) (pw_or1 (pt_cmpR (z_eq hu) (pv 1) (pe_str) (nomark _))))) (pss_one (ps_ret (pe_int))) (pss_nil)) (pss_one (ps_ret (pe_int))))))))), body_ok (facts T) fn_takes rfl h⟩
theorem ok_leaves {P : Program} {w : World} {K : PySem.W.Frag} {mg : Str → Option Value} {base : Heap} {n : Nat} (T : HF K mg) (A : AL P w K mg base n) {fd : FuncData} (F : FN_leaves K fd) : FnOk P w K mg base (L2.CX P w) (2 * (n + 1)) (He.fAd K ("leaves", none)) fd ["row"] (spR PR K (n + 1) "leaves") :=
  F.ok (k := 2 * n + 1) sc_leaves (fun _ _ _ _ h => spR_len fn_leaves h) fun cdv A0 outer s H vs Q E hr1 h => by
    have hr : Room (2 * n) (A0.deeper (envOfC "leaves" (defScope st_leaves) s.heap.objs.size (He.fAd K ("leaves", none)) cdv)) := hr1.mono (Nat.le_succ _)
    have hu := hr.units
    have nd := sc_leaves.nd
    have zo : PassesOwn (model P w) (cxOf (L2.CX P w) P w K mg base ["row", "word"] "leaves" (defScope st_leaves) (He.fAd K ("leaves", none)) cdv A0 outer s H E).A (cxOf (L2.CX P w) P w K mg base ["row", "word"] "leaves" (defScope st_leaves) (He.fAd K ("leaves", none)) cdv A0 outer s H E).env (cxOf (L2.CX P w) P w K mg base ["row", "word"] "leaves" (defScope st_leaves) (He.fAd K ("leaves", none)) cdv A0 outer s H E).xe := passes_of rfl
    have zt : Takes (cxOf (L2.CX P w) P w K mg base ["row", "word"] "leaves" (defScope st_leaves) (He.fAd K ("leaves", none)) cdv A0 outer s H E) (fun cls d _ H => E cls d H) := takes_of rfl rfl rfl rfl
    exact ⟨rdS (rc PR K (gv K) n fun cls d _ H => E cls d H) F_leaves.body, (pss_cons (zset 1 nd (pe_ix ix_seq (pv 0) (pe_int) (fun _ _ => rfl))) (pss_cons (ps_if (pt_cmpR (z_eq hu) (pv 1) (pe_str) (nomark _)) (pss_one (ps_ret (pe_op z_add (pe_ix ix_seq (pv 0) (pe_int) (fun _ _ => rfl)) (pe_int)))) (pss_nil)) (pss_cons (ps_if (pt_cmpR (z_eq hu) (pv 1) (pe_str) (nomark _)) (pss_one (ps_ret (pe_op z_add (pe_ix ix_seq (pv 0) (pe_int) (fun _ _ => rfl)) (pe_int)))) (pss_nil)) (pss_cons (ps_if (pt_cmpR (z_in hu) (pv 1) (pe_tup (pa_cons (pe_str) (pa_cons (pe_str) (pa_cons (pe_str) (pa_cons (pe_str) (pa_cons (pe_str) (pa_cons (pe_str) (pa_cons (pe_str) (pa_nil))))))))) (by rfl)) (pss_one (ps_ret (pe_int))) (pss_nil)) (pss_cons (ps_if (pt_cmpR (z_in hu) (pv 1) (pe_tup (pa_cons (pe_str) (pa_cons (pe_str) (pa_cons (pe_str) (pa_nil))))) (by rfl)) (pss_one (ps_ret (pe_int))) (pss_nil)) (pss_one (ps_ret (pe_int)))))))), body_ok (facts T) fn_leaves rfl h⟩
theorem ok_price {P : Program} {w : World} {K : PySem.W.Frag} {mg : Str → Option Value} {base : Heap} {n : Nat} (T : HF K mg) (A : AL P w K mg base n) {fd : FuncData} (F : FN_price K fd) : FnOk P w K mg base (L2.CX P w) (2 * (n + 1)) (He.fAd K ("price", none)) fd ["row", "dear"] (spR PR K (n + 1) "price") :=
  F.ok (k := 2 * n + 1) sc_price (fun _ _ _ _ h => spR_len fn_price h) fun cdv A0 outer s H vs Q E hr1 h => by
    have hr : Room (2 * n) (A0.deeper (envOfC "price" (defScope st_price) s.heap.objs.size (He.fAd K ("price", none)) cdv)) := hr1.mono (Nat.le_succ _)
    have hu := hr.units
    have nd := sc_price.nd
    have zo : PassesOwn (model P w) (cxOf (L2.CX P w) P w K mg base ["row", "dear", "word"] "price" (defScope st_price) (He.fAd K ("price", none)) cdv A0 outer s H E).A (cxOf (L2.CX P w) P w K mg base ["row", "dear", "word"] "price" (defScope st_price) (He.fAd K ("price", none)) cdv A0 outer s H E).env (cxOf (L2.CX P w) P w K mg base ["row", "dear", "word"] "price" (defScope st_price) (He.fAd K ("price", none)) cdv A0 outer s H E).xe := passes_of rfl
    have zt : Takes (cxOf (L2.CX P w) P w K mg base ["row", "dear", "word"] "price" (defScope st_price) (He.fAd K ("price", none)) cdv A0 outer s H E) (fun cls d _ H => E cls d H) := takes_of rfl rfl rfl rfl
    exact ⟨rdS (rc PR K (gv K) n fun cls d _ H => E cls d H) F_price.body, (pss_cons (zset 2 nd (pe_ix ix_seq (pv 0) (pe_int) (fun _ _ => rfl))) (pss_cons (ps_if (pt_cmpR (z_eq hu) (pv 2) (pe_str) (nomark _)) (pss_one (ps_ret (pe_ifExp (ztru (pv 1)) (pe_int) (pe_int)))) (pss_nil)) (pss_cons (ps_if (pt_cmpR (z_eq hu) (pv 2) (pe_str) (nomark _)) (pss_one (ps_ret (pe_ifExp (ztru (pv 1)) (pe_int) (pe_int)))) (pss_nil)) (pss_cons (ps_if (PW.pt (pw_or (pt_cmpR (z_eq hu) (pv 2) (pe_str) (nomark _)) (pw_or1 (pt_cmpR (z_eq hu) (pv 2) (pe_str) (nomark _))))) (pss_one (ps_ret (pe_int))) (pss_nil)) (pss_cons (ps_if (pt_cmpR (z_eq hu) (pv 2) (pe_str) (nomark _)) (pss_one (ps_ret (pe_int))) (pss_nil)) (pss_cons (ps_if (PW.pt (pw_or (pt_cmpR (z_eq hu) (pv 2) (pe_str) (nomark _)) (pw_or1 (pt_cmpR (z_eq hu) (pv 2) (pe_str) (nomark _))))) (pss_one (ps_ret (pe_int))) (pss_nil)) (pss_cons (ps_if (pt_cmpR (z_in hu) (pv 2) (pe_tup (pa_cons (pe_str) (pa_cons (pe_str) (pa_cons (pe_str) (pa_nil))))) (by rfl)) (pss_one (ps_ret (pe_int))) (pss_nil)) (pss_one (ps_ret (pe_int)))))))))), body_ok (facts T) fn_price rfl h⟩
theorem ok_shared {P : Program} {w : World} {K : PySem.W.Frag} {mg : Str → Option Value} {base : Heap} {n : Nat} (T : HF K mg) (A : AL P w K mg base n) {fd : FuncData} (F : FN_shared K fd) : FnOk P w K mg base (L2.CX P w) (2 * (n + 1)) (He.fAd K ("shared", none)) fd ["word", "one", "other"] (spR PR K (n + 1) "shared") :=
  F.ok (k := 2 * n + 1) sc_shared (fun _ _ _ _ h => spR_len fn_shared h) fun cdv A0 outer s H vs Q E hr1 h => by
    have hr : Room (2 * n) (A0.deeper (envOfC "shared" (defScope st_shared) s.heap.objs.size (He.fAd K ("shared", none)) cdv)) := hr1.mono (Nat.le_succ _)
    have hu := hr.units
    have nd := sc_shared.nd
    have zo : PassesOwn (model P w) (cxOf (L2.CX P w) P w K mg base ["word", "one", "other", "parts"] "shared" (defScope st_shared) (He.fAd K ("shared", none)) cdv A0 outer s H E).A (cxOf (L2.CX P w) P w K mg base ["word", "one", "other", "parts"] "shared" (defScope st_shared) (He.fAd K ("shared", none)) cdv A0 outer s H E).env (cxOf (L2.CX P w) P w K mg base ["word", "one", "other", "parts"] "shared" (defScope st_shared) (He.fAd K ("shared", none)) cdv A0 outer s H E).xe := passes_of rfl
    have zt : Takes (cxOf (L2.CX P w) P w K mg base ["word", "one", "other", "parts"] "shared" (defScope st_shared) (He.fAd K ("shared", none)) cdv A0 outer s H E) (fun cls d _ H => E cls d H) := takes_of rfl rfl rfl rfl
    exact ⟨rdS (rc PR K (gv K) n fun cls d _ H => E cls d H) F_shared.body, (pss_cons (ps_if (pt_cmpR (z_eq hu) (pv 2) (pe_int) (nomark _)) (pss_one (ps_ret (pe_int))) (pss_nil)) (pss_cons (zset 3 nd (zb_divmod rfl T.b_divmod (pa_cons (pv 1) (pa_cons (pv 2) (pa_nil))))) (pss_cons (ps_if (pt_cmpR (z_eq hu) (pv 0) (pe_str) (nomark _)) (pss_one (ps_ret (pe_ix ix_seq (pv 3) (pe_int) (fun _ _ => rfl)))) (pss_nil)) (pss_one (ps_ret (pe_ix ix_seq (pv 3) (pe_int) (fun _ _ => rfl))))))), body_ok (facts T) fn_shared rfl h⟩
theorem ok_moved {P : Program} {w : World} {K : PySem.W.Frag} {mg : Str → Option Value} {base : Heap} {n : Nat} (T : HF K mg) (A : AL P w K mg base n) {fd : FuncData} (F : FN_moved K fd) : FnOk P w K mg base (L2.CX P w) (2 * (n + 1)) (He.fAd K ("moved", none)) fd ["word", "one", "other"] (spR PR K (n + 1) "moved") :=
  F.ok (k := 2 * n + 1) sc_moved (fun _ _ _ _ h => spR_len fn_moved h) fun cdv A0 outer s H vs Q E hr1 h => by
    have hr : Room (2 * n) (A0.deeper (envOfC "moved" (defScope st_moved) s.heap.objs.size (He.fAd K ("moved", none)) cdv)) := hr1.mono (Nat.le_succ _)
    have hu := hr.units
    have nd := sc_moved.nd
    have zo : PassesOwn (model P w) (cxOf (L2.CX P w) P w K mg base ["word", "one", "other"] "moved" (defScope st_moved) (He.fAd K ("moved", none)) cdv A0 outer s H E).A (cxOf (L2.CX P w) P w K mg base ["word", "one", "other"] "moved" (defScope st_moved) (He.fAd K ("moved", none)) cdv A0 outer s H E).env (cxOf (L2.CX P w) P w K mg base ["word", "one", "other"] "moved" (defScope st_moved) (He.fAd K ("moved", none)) cdv A0 outer s H E).xe := passes_of rfl
    have zt : Takes (cxOf (L2.CX P w) P w K mg base ["word", "one", "other"] "moved" (defScope st_moved) (He.fAd K ("moved", none)) cdv A0 outer s H E) (fun cls d _ H => E cls d H) := takes_of rfl rfl rfl rfl
    exact ⟨rdS (rc PR K (gv K) n fun cls d _ H => E cls d H) F_moved.body, (pss_cons (ps_if (pt_cmpR (z_ge hu) (pv 2) (pe_int) (nomark _)) (pss_one (ps_ret (pe_int))) (pss_nil)) (pss_cons (ps_if (pt_cmpR (z_eq hu) (pv 0) (pe_str) (nomark _)) (pss_one (ps_ret (pe_op z_mod (pe_op z_shl (pv 1) (pv 2)) (zglo T.k_WIDE)))) (pss_nil)) (pss_one (ps_ret (pe_op z_shr (pv 1) (pv 2)))))), body_ok (facts T) fn_moved rfl h⟩
theorem ok_reckon {P : Program} {w : World} {K : PySem.W.Frag} {mg : Str → Option Value} {base : Heap} {n : Nat} (T : HF K mg) (A : AL P w K mg base n) {fd : FuncData} (F : FN_reckon K fd) : FnOk P w K mg base (L2.CX P w) (2 * (n + 1)) (He.fAd K ("reckon", none)) fd ["word", "one", "other"] (spR PR K (n + 1) "reckon") :=
  F.ok (k := 2 * n + 1) sc_reckon (fun _ _ _ _ h => spR_len fn_reckon h) fun cdv A0 outer s H vs Q E hr1 h => by
    have hr : Room (2 * n) (A0.deeper (envOfC "reckon" (defScope st_reckon) s.heap.objs.size (He.fAd K ("reckon", none)) cdv)) := hr1.mono (Nat.le_succ _)
    have hu := hr.units
    have nd := sc_reckon.nd
    have zo : PassesOwn (model P w) (cxOf (L2.CX P w) P w K mg base ["word", "one", "other"] "reckon" (defScope st_reckon) (He.fAd K ("reckon", none)) cdv A0 outer s H E).A (cxOf (L2.CX P w) P w K mg base ["word", "one", "other"] "reckon" (defScope st_reckon) (He.fAd K ("reckon", none)) cdv A0 outer s H E).env (cxOf (L2.CX P w) P w K mg base ["word", "one", "other"] "reckon" (defScope st_reckon) (He.fAd K ("reckon", none)) cdv A0 outer s H E).xe := passes_of rfl
    have zt : Takes (cxOf (L2.CX P w) P w K mg base ["word", "one", "other"] "reckon" (defScope st_reckon) (He.fAd K ("reckon", none)) cdv A0 outer s H E) (fun cls d _ H => E cls d H) := takes_of rfl rfl rfl rfl
    exact ⟨rdS (rc PR K (gv K) n fun cls d _ H => E cls d H) F_reckon.body, (pss_cons (ps_if (pt_cmpR (z_eq hu) (pv 0) (pe_str) (nomark _)) (pss_one (ps_ret (pe_op z_mod (pe_op z_add (pv 1) (pv 2)) (zglo T.k_WIDE)))) (pss_nil)) (pss_cons (ps_if (pt_cmpR (z_eq hu) (pv 0) (pe_str) (nomark _)) (pss_one (ps_ret (pe_op z_mod (pe_op z_sub (pv 1) (pv 2)) (zglo T.k_WIDE)))) (pss_nil)) (pss_cons (ps_if (pt_cmpR (z_eq hu) (pv 0) (pe_str) (nomark _)) (pss_one (ps_ret (pe_op z_mod (pe_op z_mul (pv 1) (pv 2)) (zglo T.k_WIDE)))) (pss_nil)) (pss_cons (ps_if (PW.pt (pw_or (pt_cmpR (z_eq hu) (pv 0) (pe_str) (nomark _)) (pw_or1 (pt_cmpR (z_eq hu) (pv 0) (pe_str) (nomark _))))) (pss_one (ps_ret (zcall (A.shared) hr rfl T.g_shared zpD (pa_cons (pv 0) (pa_cons (pv 1) (pa_cons (pv 2) (pa_nil))))))) (pss_nil)) (pss_cons (ps_if (pt_cmpR (z_eq hu) (pv 0) (pe_str) (nomark _)) (pss_one (ps_ret (zb_int rfl T.b_int (pa_cons (pe_cmpR (z_lt hu) (pv 1) (pv 2) (nomark _)) (pa_nil))))) (pss_nil)) (pss_cons (ps_if (pt_cmpR (z_eq hu) (pv 0) (pe_str) (nomark _)) (pss_one (ps_ret (zb_int rfl T.b_int (pa_cons (pe_cmpR (z_eq hu) (pv 1) (pv 2) (nomark _)) (pa_nil))))) (pss_nil)) (pss_cons (ps_if (pt_cmpR (z_eq hu) (pv 0) (pe_str) (nomark _)) (pss_one (ps_ret (pe_op z_band (pv 1) (pv 2)))) (pss_nil)) (pss_cons (ps_if (pt_cmpR (z_eq hu) (pv 0) (pe_str) (nomark _)) (pss_one (ps_ret (pe_op z_bor (pv 1) (pv 2)))) (pss_nil)) (pss_cons (ps_if (pt_cmpR (z_eq hu) (pv 0) (pe_str) (nomark _)) (pss_one (ps_ret (pe_op z_bxor (pv 1) (pv 2)))) (pss_nil)) (pss_one (ps_ret (zcall (A.moved) hr rfl T.g_moved zpD (pa_cons (pv 0) (pa_cons (pv 1) (pa_cons (pv 2) (pa_nil)))))))))))))))), body_ok (facts T) fn_reckon rfl h⟩
theorem ok_Frame_init {P : Program} {w : World} {K : PySem.W.Frag} {mg : Str → Option Value} {base : Heap} {n : Nat} (T : HF K mg) (A : AL P w K mg base n) {fd : FuncData} (F : FN_Frame_init K fd) : FnOk P w K mg base (L2.CX P w) (2 * (n + 1)) (He.fAd K ("Frame", some "__init__")) fd ["self", "kind", "who", "whose", "caller", "coin", "word"] (spR PR K (n + 1) "Frame.__init__") :=
  F.ok (k := 2 * n + 1) sc_Frame_init (fun _ _ _ _ h => spR_len fn_Frame_init h) fun cdv A0 outer s H vs Q E hr1 h => by
    have hr : Room (2 * n) (A0.deeper (envOfC "Frame.__init__" (defScope st_Frame_init) s.heap.objs.size (He.fAd K ("Frame", some "__init__")) cdv)) := hr1.mono (Nat.le_succ _)
    have hu := hr.units
    have nd := sc_Frame_init.nd
    have zo : PassesOwn (model P w) (cxOf (L2.CX P w) P w K mg base ["self", "kind", "who", "whose", "caller", "coin", "word"] "Frame.__init__" (defScope st_Frame_init) (He.fAd K ("Frame", some "__init__")) cdv A0 outer s H E).A (cxOf (L2.CX P w) P w K mg base ["self", "kind", "who", "whose", "caller", "coin", "word"] "Frame.__init__" (defScope st_Frame_init) (He.fAd K ("Frame", some "__init__")) cdv A0 outer s H E).env (cxOf (L2.CX P w) P w K mg base ["self", "kind", "who", "whose", "caller", "coin", "word"] "Frame.__init__" (defScope st_Frame_init) (He.fAd K ("Frame", some "__init__")) cdv A0 outer s H E).xe := passes_of rfl
    have zt : Takes (cxOf (L2.CX P w) P w K mg base ["self", "kind", "who", "whose", "caller", "coin", "word"] "Frame.__init__" (defScope st_Frame_init) (He.fAd K ("Frame", some "__init__")) cdv A0 outer s H E) (fun cls d _ H => E cls d H) := takes_of rfl rfl rfl rfl
    exact ⟨rdS (rc PR K (gv K) n fun cls d _ H => E cls d H) F_Frame_init.body, (pss_cons (ps_fld (pv 0) (pv 1) rfl) (pss_cons (ps_fld (pv 0) (pv 2) rfl) (pss_cons (ps_fld (pv 0) (pv 3) rfl) (pss_cons (ps_fld (pv 0) (pv 4) rfl) (pss_cons (ps_fld (pv 0) (pv 5) rfl) (pss_cons (ps_fld (pv 0) (pv 6) rfl) (pss_cons (ps_fld (pv 0) (pe_int) rfl) (pss_cons (ps_fld (pv 0) (pe_int) rfl) (pss_cons (ps_fld (pv 0) (pe_cmpR (z_eq hu) (pv 1) (pe_str) (nomark _)) rfl) (pss_cons (ps_fld (pv 0) (pe_lst (pa_nil)) rfl) (pss_cons (ps_fld (pv 0) (pe_int) rfl) (pss_cons (ps_fld (pv 0) (pe_int) rfl) (pss_cons (ps_fld (pv 0) (pe_lst (pa_nil)) rfl) (pss_cons (ps_fld (pv 0) (pe_str) rfl) (pss_one (ps_fld (pv 0) (pe_int) rfl)))))))))))))))), body_ok (facts T) fn_Frame_init rfl h⟩
theorem ok_Frame_finish {P : Program} {w : World} {K : PySem.W.Frag} {mg : Str → Option Value} {base : Heap} {n : Nat} (T : HF K mg) (A : AL P w K mg base n) {fd : FuncData} (F : FN_Frame_finish K fd) : FnOk P w K mg base (L2.CX P w) (2 * (n + 1)) (He.fAd K ("Frame", some "finish")) fd ["self", "end", "answer"] (spR PR K (n + 1) "Frame.finish") :=
  F.ok (k := 2 * n + 1) sc_Frame_finish (fun _ _ _ _ h => spR_len fn_Frame_finish h) fun cdv A0 outer s H vs Q E hr1 h => by
    have hr : Room (2 * n) (A0.deeper (envOfC "Frame.finish" (defScope st_Frame_finish) s.heap.objs.size (He.fAd K ("Frame", some "finish")) cdv)) := hr1.mono (Nat.le_succ _)
    have hu := hr.units
    have nd := sc_Frame_finish.nd
    have zo : PassesOwn (model P w) (cxOf (L2.CX P w) P w K mg base ["self", "end", "answer"] "Frame.finish" (defScope st_Frame_finish) (He.fAd K ("Frame", some "finish")) cdv A0 outer s H E).A (cxOf (L2.CX P w) P w K mg base ["self", "end", "answer"] "Frame.finish" (defScope st_Frame_finish) (He.fAd K ("Frame", some "finish")) cdv A0 outer s H E).env (cxOf (L2.CX P w) P w K mg base ["self", "end", "answer"] "Frame.finish" (defScope st_Frame_finish) (He.fAd K ("Frame", some "finish")) cdv A0 outer s H E).xe := passes_of rfl
    have zt : Takes (cxOf (L2.CX P w) P w K mg base ["self", "end", "answer"] "Frame.finish" (defScope st_Frame_finish) (He.fAd K ("Frame", some "finish")) cdv A0 outer s H E) (fun cls d _ H => E cls d H) := takes_of rfl rfl rfl rfl
    exact ⟨rdS (rc PR K (gv K) n fun cls d _ H => E cls d H) F_Frame_finish.body, (pss_cons (ps_fld (pv 0) (pv 1) rfl) (pss_one (ps_fld (pv 0) (pv 2) rfl))), body_ok (facts T) fn_Frame_finish rfl h⟩
theorem ok_Frame_is_short {P : Program} {w : World} {K : PySem.W.Frag} {mg : Str → Option Value} {base : Heap} {n : Nat} (T : HF K mg) (A : AL P w K mg base n) {fd : FuncData} (F : FN_Frame_is_short K fd) : FnOk P w K mg base (L2.CX P w) (2 * (n + 1)) (He.fAd K ("Frame", some "is_short")) fd ["self", "row"] (spR PR K (n + 1) "Frame.is_short") :=
  F.ok (k := 2 * n + 1) sc_Frame_is_short (fun _ _ _ _ h => spR_len fn_Frame_is_short h) fun cdv A0 outer s H vs Q E hr1 h => by
    have hr : Room (2 * n) (A0.deeper (envOfC "Frame.is_short" (defScope st_Frame_is_short) s.heap.objs.size (He.fAd K ("Frame", some "is_short")) cdv)) := hr1.mono (Nat.le_succ _)
    have hu := hr.units
    have nd := sc_Frame_is_short.nd
    have zo : PassesOwn (model P w) (cxOf (L2.CX P w) P w K mg base ["self", "row"] "Frame.is_short" (defScope st_Frame_is_short) (He.fAd K ("Frame", some "is_short")) cdv A0 outer s H E).A (cxOf (L2.CX P w) P w K mg base ["self", "row"] "Frame.is_short" (defScope st_Frame_is_short) (He.fAd K ("Frame", some "is_short")) cdv A0 outer s H E).env (cxOf (L2.CX P w) P w K mg base ["self", "row"] "Frame.is_short" (defScope st_Frame_is_short) (He.fAd K ("Frame", some "is_short")) cdv A0 outer s H E).xe := passes_of rfl
    have zt : Takes (cxOf (L2.CX P w) P w K mg base ["self", "row"] "Frame.is_short" (defScope st_Frame_is_short) (He.fAd K ("Frame", some "is_short")) cdv A0 outer s H E) (fun cls d _ H => E cls d H) := takes_of rfl rfl rfl rfl
    exact ⟨rdS (rc PR K (gv K) n fun cls d _ H => E cls d H) F_Frame_is_short.body, (pss_one (ps_ret (pe_cmpR (z_lt hu) (zb_len rfl T.b_len (pa_cons (pe_fld (pv 0) rfl) (pa_nil))) (zcall (A.takes) hr rfl T.g_takes zpD (pa_cons (pv 1) (pa_nil))) (nomark _)))), body_ok (facts T) fn_Frame_is_short rfl h⟩
theorem ok_Frame_is_full {P : Program} {w : World} {K : PySem.W.Frag} {mg : Str → Option Value} {base : Heap} {n : Nat} (T : HF K mg) (A : AL P w K mg base n) {fd : FuncData} (F : FN_Frame_is_full K fd) : FnOk P w K mg base (L2.CX P w) (2 * (n + 1)) (He.fAd K ("Frame", some "is_full")) fd ["self", "row"] (spR PR K (n + 1) "Frame.is_full") :=
  F.ok (k := 2 * n + 1) sc_Frame_is_full (fun _ _ _ _ h => spR_len fn_Frame_is_full h) fun cdv A0 outer s H vs Q E hr1 h => by
    have hr : Room (2 * n) (A0.deeper (envOfC "Frame.is_full" (defScope st_Frame_is_full) s.heap.objs.size (He.fAd K ("Frame", some "is_full")) cdv)) := hr1.mono (Nat.le_succ _)
    have hu := hr.units
    have nd := sc_Frame_is_full.nd
    have zo : PassesOwn (model P w) (cxOf (L2.CX P w) P w K mg base ["self", "row"] "Frame.is_full" (defScope st_Frame_is_full) (He.fAd K ("Frame", some "is_full")) cdv A0 outer s H E).A (cxOf (L2.CX P w) P w K mg base ["self", "row"] "Frame.is_full" (defScope st_Frame_is_full) (He.fAd K ("Frame", some "is_full")) cdv A0 outer s H E).env (cxOf (L2.CX P w) P w K mg base ["self", "row"] "Frame.is_full" (defScope st_Frame_is_full) (He.fAd K ("Frame", some "is_full")) cdv A0 outer s H E).xe := passes_of rfl
    have zt : Takes (cxOf (L2.CX P w) P w K mg base ["self", "row"] "Frame.is_full" (defScope st_Frame_is_full) (He.fAd K ("Frame", some "is_full")) cdv A0 outer s H E) (fun cls d _ H => E cls d H) := takes_of rfl rfl rfl rfl
    exact ⟨rdS (rc PR K (gv K) n fun cls d _ H => E cls d H) F_Frame_is_full.body, (pss_one (ps_ret (pe_cmpR (z_gt hu) (pe_op z_add (pe_op z_sub (zb_len rfl T.b_len (pa_cons (pe_fld (pv 0) rfl) (pa_nil))) (zcall (A.takes) hr rfl T.g_takes zpD (pa_cons (pv 1) (pa_nil)))) (zcall (A.leaves) hr rfl T.g_leaves zpD (pa_cons (pv 1) (pa_nil)))) (zglo T.k_STACK) (nomark _)))), body_ok (facts T) fn_Frame_is_full rfl h⟩
theorem ok_Frame_tree {P : Program} {w : World} {K : PySem.W.Frag} {mg : Str → Option Value} {base : Heap} {n : Nat} (T : HF K mg) (A : AL P w K mg base n) {fd : FuncData} (F : FN_Frame_tree K fd) : FnOk P w K mg base (L2.CX P w) (2 * (n + 1)) (He.fAd K ("Frame", some "tree")) fd ["self"] (spR PR K (n + 1) "Frame.tree") :=
  F.ok (k := 2 * n + 1) sc_Frame_tree (fun _ _ _ _ h => spR_len fn_Frame_tree h) fun cdv A0 outer s H vs Q E hr1 h => by
    have hr : Room (2 * n) (A0.deeper (envOfC "Frame.tree" (defScope st_Frame_tree) s.heap.objs.size (He.fAd K ("Frame", some "tree")) cdv)) := hr1.mono (Nat.le_succ _)
    have hu := hr.units
    have nd := sc_Frame_tree.nd
    have zo : PassesOwn (model P w) (cxOf (L2.CX P w) P w K mg base ["self", "asked"] "Frame.tree" (defScope st_Frame_tree) (He.fAd K ("Frame", some "tree")) cdv A0 outer s H E).A (cxOf (L2.CX P w) P w K mg base ["self", "asked"] "Frame.tree" (defScope st_Frame_tree) (He.fAd K ("Frame", some "tree")) cdv A0 outer s H E).env (cxOf (L2.CX P w) P w K mg base ["self", "asked"] "Frame.tree" (defScope st_Frame_tree) (He.fAd K ("Frame", some "tree")) cdv A0 outer s H E).xe := passes_of rfl
    have zt : Takes (cxOf (L2.CX P w) P w K mg base ["self", "asked"] "Frame.tree" (defScope st_Frame_tree) (He.fAd K ("Frame", some "tree")) cdv A0 outer s H E) (fun cls d _ H => E cls d H) := takes_of rfl rfl rfl rfl
    exact ⟨rdS (rc PR K (gv K) n fun cls d _ H => E cls d H) F_Frame_tree.body, (pss_cons (zset 1 nd (pe_tup (pa_cons (pe_fld (pv 0) rfl) (pa_cons (pe_fld (pv 0) rfl) (pa_cons (pe_fld (pv 0) rfl) (pa_cons (pe_fld (pv 0) rfl) (pa_cons (pe_fld (pv 0) rfl) (pa_cons (pe_fld (pv 0) rfl) (pa_nil))))))))) (pss_one (ps_ret (pe_op z_add (pv 1) (pe_tup (pa_cons (pe_fld (pv 0) rfl) (pa_cons (pe_fld (pv 0) rfl) (pa_cons (pe_fld (pv 0) rfl) (pa_cons (pe_fld (pv 0) rfl) (pa_cons (zb_list rfl rfl T.b_list (pa_cons (pe_fld (pv 0) rfl) (pa_nil))) (pa_nil))))))))))), body_ok (facts T) fn_Frame_tree rfl h⟩
theorem ok_Frame_place {P : Program} {w : World} {K : PySem.W.Frag} {mg : Str → Option Value} {base : Heap} {n : Nat} (T : HF K mg) (A : AL P w K mg base n) {fd : FuncData} (F : FN_Frame_place K fd) : FnOk P w K mg base (L2.CX P w) (2 * (n + 1)) (He.fAd K ("Frame", some "place")) fd ["self", "word"] (spR PR K (n + 1) "Frame.place") :=
  F.ok (k := 2 * n + 1) sc_Frame_place (fun _ _ _ _ h => spR_len fn_Frame_place h) fun cdv A0 outer s H vs Q E hr1 h => by
    have hr : Room (2 * n) (A0.deeper (envOfC "Frame.place" (defScope st_Frame_place) s.heap.objs.size (He.fAd K ("Frame", some "place")) cdv)) := hr1.mono (Nat.le_succ _)
    have hu := hr.units
    have nd := sc_Frame_place.nd
    have zo : PassesOwn (model P w) (cxOf (L2.CX P w) P w K mg base ["self", "word"] "Frame.place" (defScope st_Frame_place) (He.fAd K ("Frame", some "place")) cdv A0 outer s H E).A (cxOf (L2.CX P w) P w K mg base ["self", "word"] "Frame.place" (defScope st_Frame_place) (He.fAd K ("Frame", some "place")) cdv A0 outer s H E).env (cxOf (L2.CX P w) P w K mg base ["self", "word"] "Frame.place" (defScope st_Frame_place) (He.fAd K ("Frame", some "place")) cdv A0 outer s H E).xe := passes_of rfl
    have zt : Takes (cxOf (L2.CX P w) P w K mg base ["self", "word"] "Frame.place" (defScope st_Frame_place) (He.fAd K ("Frame", some "place")) cdv A0 outer s H E) (fun cls d _ H => E cls d H) := takes_of rfl rfl rfl rfl
    exact ⟨rdS (rc PR K (gv K) n fun cls d _ H => E cls d H) F_Frame_place.body, (pss_cons (ps_if (pt_cmpR (z_eq hu) (pv 1) (pe_str) (nomark _)) (pss_one (ps_ret (pe_fld (pv 0) rfl))) (pss_nil)) (pss_cons (ps_if (pt_cmpR (z_eq hu) (pv 1) (pe_str) (nomark _)) (pss_one (ps_ret (pe_fld (pv 0) rfl))) (pss_nil)) (pss_cons (ps_if (pt_cmpR (z_eq hu) (pv 1) (pe_str) (nomark _)) (pss_one (ps_ret (pe_fld (pv 0) rfl))) (pss_nil)) (pss_one (ps_ret (pe_fld (pv 0) rfl)))))), body_ok (facts T) fn_Frame_place rfl h⟩
theorem ok_Frame_move_about {P : Program} {w : World} {K : PySem.W.Frag} {mg : Str → Option Value} {base : Heap} {n : Nat} (T : HF K mg) (A : AL P w K mg base n) {fd : FuncData} (F : FN_Frame_move_about K fd) : FnOk P w K mg base (L2.CX P w) (2 * (n + 1)) (He.fAd K ("Frame", some "move_about")) fd ["self", "row"] (spR PR K (n + 1) "Frame.move_about") :=
  F.ok (k := 2 * n + 1) sc_Frame_move_about (fun _ _ _ _ h => spR_len fn_Frame_move_about h) fun cdv A0 outer s H vs Q E hr1 h => by
    have hr : Room (2 * n) (A0.deeper (envOfC "Frame.move_about" (defScope st_Frame_move_about) s.heap.objs.size (He.fAd K ("Frame", some "move_about")) cdv)) := hr1.mono (Nat.le_succ _)
    have hu := hr.units
    have nd := sc_Frame_move_about.nd
    have zo : PassesOwn (model P w) (cxOf (L2.CX P w) P w K mg base ["self", "row", "word", "deep", "top"] "Frame.move_about" (defScope st_Frame_move_about) (He.fAd K ("Frame", some "move_about")) cdv A0 outer s H E).A (cxOf (L2.CX P w) P w K mg base ["self", "row", "word", "deep", "top"] "Frame.move_about" (defScope st_Frame_move_about) (He.fAd K ("Frame", some "move_about")) cdv A0 outer s H E).env (cxOf (L2.CX P w) P w K mg base ["self", "row", "word", "deep", "top"] "Frame.move_about" (defScope st_Frame_move_about) (He.fAd K ("Frame", some "move_about")) cdv A0 outer s H E).xe := passes_of rfl
    have zt : Takes (cxOf (L2.CX P w) P w K mg base ["self", "row", "word", "deep", "top"] "Frame.move_about" (defScope st_Frame_move_about) (He.fAd K ("Frame", some "move_about")) cdv A0 outer s H E) (fun cls d _ H => E cls d H) := takes_of rfl rfl rfl rfl
    exact ⟨rdS (rc PR K (gv K) n fun cls d _ H => E cls d H) F_Frame_move_about.body, (pss_cons (zset 2 nd (pe_ix ix_seq (pv 1) (pe_int) (fun _ _ => rfl))) (pss_one (ps_if (pt_cmpR (z_eq hu) (pv 2) (pe_str) (nomark _)) (pss_one (ps_expr (zm_append (pe_fld (pv 0) rfl) (pa_cons (pe_ix ix_seq (pv 1) (pe_int) (fun _ _ => rfl)) (pa_nil))))) (pss_one (ps_if (pt_cmpR (z_eq hu) (pv 2) (pe_str) (nomark _)) (pss_one (ps_expr (zm_pop (pe_fld (pv 0) rfl)))) (pss_one (ps_if (pt_cmpR (z_eq hu) (pv 2) (pe_str) (nomark _)) (pss_one (ps_expr (zm_append (pe_fld (pv 0) rfl) (pa_cons (pe_ix ix_seq (pe_fld (pv 0) rfl) (pe_op z_sub (pe_un un_neg (pe_int)) (pe_ix ix_seq (pv 1) (pe_int) (fun _ _ => rfl))) (fun _ _ => rfl)) (pa_nil))))) (pss_cons (zset 3 nd (pe_op z_sub (pe_op z_sub (zb_len rfl T.b_len (pa_cons (pe_fld (pv 0) rfl) (pa_nil))) (pe_int)) (pe_ix ix_seq (pv 1) (pe_int) (fun _ _ => rfl)))) (pss_cons (zset 4 nd (zm_pop (pe_fld (pv 0) rfl))) (pss_cons (ps_expr (zm_append (pe_fld (pv 0) rfl) (pa_cons (pe_ix ix_seq (pe_fld (pv 0) rfl) (pv 3) (fun _ _ => rfl)) (pa_nil)))) (pss_one (ps_asg (pv 4) (pg_sub (pe_fld (pv 0) rfl) (pv 3) set_list))))))))))))), body_ok (facts T) fn_Frame_move_about rfl h⟩
theorem ok_Frame_lead {P : Program} {w : World} {K : PySem.W.Frag} {mg : Str → Option Value} {base : Heap} {n : Nat} (T : HF K mg) (A : AL P w K mg base n) {fd : FuncData} (F : FN_Frame_lead K fd) : FnOk P w K mg base (L2.CX P w) (2 * (n + 1)) (He.fAd K ("Frame", some "lead")) fd ["self", "row"] (spR PR K (n + 1) "Frame.lead") :=
  F.ok (k := 2 * n + 1) sc_Frame_lead (fun _ _ _ _ h => spR_len fn_Frame_lead h) fun cdv A0 outer s H vs Q E hr1 h => by
    have hr : Room (2 * n) (A0.deeper (envOfC "Frame.lead" (defScope st_Frame_lead) s.heap.objs.size (He.fAd K ("Frame", some "lead")) cdv)) := hr1.mono (Nat.le_succ _)
    have hu := hr.units
    have nd := sc_Frame_lead.nd
    have zo : PassesOwn (model P w) (cxOf (L2.CX P w) P w K mg base ["self", "row", "word"] "Frame.lead" (defScope st_Frame_lead) (He.fAd K ("Frame", some "lead")) cdv A0 outer s H E).A (cxOf (L2.CX P w) P w K mg base ["self", "row", "word"] "Frame.lead" (defScope st_Frame_lead) (He.fAd K ("Frame", some "lead")) cdv A0 outer s H E).env (cxOf (L2.CX P w) P w K mg base ["self", "row", "word"] "Frame.lead" (defScope st_Frame_lead) (He.fAd K ("Frame", some "lead")) cdv A0 outer s H E).xe := passes_of rfl
    have zt : Takes (cxOf (L2.CX P w) P w K mg base ["self", "row", "word"] "Frame.lead" (defScope st_Frame_lead) (He.fAd K ("Frame", some "lead")) cdv A0 outer s H E) (fun cls d _ H => E cls d H) := takes_of rfl rfl rfl rfl
    exact ⟨rdS (rc PR K (gv K) n fun cls d _ H => E cls d H) F_Frame_lead.body, (pss_cons (zset 2 nd (pe_ix ix_seq (pv 1) (pe_int) (fun _ _ => rfl))) (pss_one (ps_if (pt_cmpR (z_eq hu) (pv 2) (pe_str) (nomark _)) (pss_one (ps_fld (pv 0) (pe_ix ix_seq (pv 1) (pe_int) (fun _ _ => rfl)) rfl)) (pss_one (ps_if (pt_cmpR (z_eq hu) (pv 2) (pe_str) (nomark _)) (pss_one (ps_if (pt_cmpR (z_ne hu) (zm_pop (pe_fld (pv 0) rfl)) (pe_int) (nomark _)) (pss_one (ps_fld (pv 0) (pe_ix ix_seq (pv 1) (pe_int) (fun _ _ => rfl)) rfl)) (pss_nil))) (pss_one (ps_if (pt_cmpR (z_eq hu) (pv 2) (pe_str) (nomark _)) (pss_one (ps_expr (zmeth (pv 0) (A.m_finish_0) hr zpD (pa_cons (pe_str) (pa_cons (zm_pop (pe_fld (pv 0) rfl)) (pa_nil)))))) (pss_one (ps_expr (zmeth (pv 0) (A.m_finish_0) hr zpD (pa_cons (pe_str) (pa_cons (zm_pop (pe_fld (pv 0) rfl)) (pa_nil))))))))))))), body_ok (facts T) fn_Frame_lead rfl h⟩
theorem ok_Frame_plain_row {P : Program} {w : World} {K : PySem.W.Frag} {mg : Str → Option Value} {base : Heap} {n : Nat} (T : HF K mg) (A : AL P w K mg base n) {fd : FuncData} (F : FN_Frame_plain_row K fd) : FnOk P w K mg base (L2.CX P w) (2 * (n + 1)) (He.fAd K ("Frame", some "plain_row")) fd ["self", "row"] (spR PR K (n + 1) "Frame.plain_row") :=
  F.ok (k := 2 * n + 1) sc_Frame_plain_row (fun _ _ _ _ h => spR_len fn_Frame_plain_row h) fun cdv A0 outer s H vs Q E hr1 h => by
    have hr : Room (2 * n) (A0.deeper (envOfC "Frame.plain_row" (defScope st_Frame_plain_row) s.heap.objs.size (He.fAd K ("Frame", some "plain_row")) cdv)) := hr1.mono (Nat.le_succ _)
    have hu := hr.units
    have nd := sc_Frame_plain_row.nd
    have zo : PassesOwn (model P w) (cxOf (L2.CX P w) P w K mg base ["self", "row", "word", "other", "one"] "Frame.plain_row" (defScope st_Frame_plain_row) (He.fAd K ("Frame", some "plain_row")) cdv A0 outer s H E).A (cxOf (L2.CX P w) P w K mg base ["self", "row", "word", "other", "one"] "Frame.plain_row" (defScope st_Frame_plain_row) (He.fAd K ("Frame", some "plain_row")) cdv A0 outer s H E).env (cxOf (L2.CX P w) P w K mg base ["self", "row", "word", "other", "one"] "Frame.plain_row" (defScope st_Frame_plain_row) (He.fAd K ("Frame", some "plain_row")) cdv A0 outer s H E).xe := passes_of rfl
    have zt : Takes (cxOf (L2.CX P w) P w K mg base ["self", "row", "word", "other", "one"] "Frame.plain_row" (defScope st_Frame_plain_row) (He.fAd K ("Frame", some "plain_row")) cdv A0 outer s H E) (fun cls d _ H => E cls d H) := takes_of rfl rfl rfl rfl
    exact ⟨rdS (rc PR K (gv K) n fun cls d _ H => E cls d H) F_Frame_plain_row.body, (pss_cons (zset 2 nd (pe_ix ix_seq (pv 1) (pe_int) (fun _ _ => rfl))) (pss_one (ps_if (pt_cmpR (z_in hu) (pv 2) (pe_tup (pa_cons (pe_str) (pa_cons (pe_str) (pa_cons (pe_str) (pa_cons (pe_str) (pa_nil)))))) (by rfl)) (pss_one (ps_expr (zmeth (pv 0) (A.m_move_about_0) hr zpD (pa_cons (pv 1) (pa_nil))))) (pss_one (ps_if (pt_cmpR (z_in hu) (pv 2) (pe_tup (pa_cons (pe_str) (pa_cons (pe_str) (pa_cons (pe_str) (pa_cons (pe_str) (pa_nil)))))) (by rfl)) (pss_one (ps_expr (zmeth (pv 0) (A.m_lead_0) hr zpD (pa_cons (pv 1) (pa_nil))))) (pss_one (ps_if (pt_cmpR (z_in hu) (pv 2) (pe_tup (pa_cons (pe_str) (pa_cons (pe_str) (pa_cons (pe_str) (pa_cons (pe_str) (pa_nil)))))) (by rfl)) (pss_one (ps_expr (zm_append (pe_fld (pv 0) rfl) (pa_cons (zmeth (pv 0) (A.m_place_0) hr zpD (pa_cons (pv 2) (pa_nil))) (pa_nil))))) (pss_cons (zset 3 nd (zm_pop (pe_fld (pv 0) rfl))) (pss_cons (zset 4 nd (zm_pop (pe_fld (pv 0) rfl))) (pss_one (ps_expr (zm_append (pe_fld (pv 0) rfl) (pa_cons (zcall (A.reckon) hr rfl T.g_reckon zpD (pa_cons (pv 2) (pa_cons (pv 4) (pa_cons (pv 3) (pa_nil))))) (pa_nil)))))))))))))), body_ok (facts T) fn_Frame_plain_row rfl h⟩
theorem ok_is_change {P : Program} {w : World} {K : PySem.W.Frag} {mg : Str → Option Value} {base : Heap} {n : Nat} (T : HF K mg) (A : AL P w K mg base n) {fd : FuncData} (F : FN_is_change K fd) : FnOk P w K mg base (L2.CX P w) (2 * (n + 1)) (He.fAd K ("is_change", none)) fd ["row", "stack"] (spR PR K (n + 1) "is_change") :=
  F.ok (k := 2 * n + 1) sc_is_change (fun _ _ _ _ h => spR_len fn_is_change h) fun cdv A0 outer s H vs Q E hr1 h => by
    have hr : Room (2 * n) (A0.deeper (envOfC "is_change" (defScope st_is_change) s.heap.objs.size (He.fAd K ("is_change", none)) cdv)) := hr1.mono (Nat.le_succ _)
    have hu := hr.units
    have nd := sc_is_change.nd
    have zo : PassesOwn (model P w) (cxOf (L2.CX P w) P w K mg base ["row", "stack"] "is_change" (defScope st_is_change) (He.fAd K ("is_change", none)) cdv A0 outer s H E).A (cxOf (L2.CX P w) P w K mg base ["row", "stack"] "is_change" (defScope st_is_change) (He.fAd K ("is_change", none)) cdv A0 outer s H E).env (cxOf (L2.CX P w) P w K mg base ["row", "stack"] "is_change" (defScope st_is_change) (He.fAd K ("is_change", none)) cdv A0 outer s H E).xe := passes_of rfl
    have zt : Takes (cxOf (L2.CX P w) P w K mg base ["row", "stack"] "is_change" (defScope st_is_change) (He.fAd K ("is_change", none)) cdv A0 outer s H E) (fun cls d _ H => E cls d H) := takes_of rfl rfl rfl rfl
    exact ⟨rdS (rc PR K (gv K) n fun cls d _ H => E cls d H) F_is_change.body, (pss_cons (ps_if (pt_cmpR (z_eq hu) (pe_ix ix_seq (pv 0) (pe_int) (fun _ _ => rfl)) (pe_str) (nomark _)) (pss_one (ps_ret (pe_cmpR (z_gt hu) (pe_ix ix_seq (pv 1) (pe_un un_neg (pe_int)) (fun _ _ => rfl)) (pe_int) (nomark _)))) (pss_nil)) (pss_one (ps_ret (pe_cmpR (z_in hu) (pe_ix ix_seq (pv 0) (pe_int) (fun _ _ => rfl)) (pe_tup (pa_cons (pe_str) (pa_cons (pe_str) (pa_nil)))) (by rfl))))), body_ok (facts T) fn_is_change rfl h⟩
theorem ok_Machine_init {P : Program} {w : World} {K : PySem.W.Frag} {mg : Str → Option Value} {base : Heap} {n : Nat} (T : HF K mg) (A : AL P w K mg base n) {fd : FuncData} (F : FN_Machine_init K fd) : FnOk P w K mg base (L2.CX P w) (2 * (n + 1)) (He.fAd K ("Machine", some "__init__")) fd ["self", "rooms", "journal"] (spR PR K (n + 1) "Machine.__init__") :=
  F.ok (k := 2 * n + 1) sc_Machine_init (fun _ _ _ _ h => spR_len fn_Machine_init h) fun cdv A0 outer s H vs Q E hr1 h => by
    have hr : Room (2 * n) (A0.deeper (envOfC "Machine.__init__" (defScope st_Machine_init) s.heap.objs.size (He.fAd K ("Machine", some "__init__")) cdv)) := hr1.mono (Nat.le_succ _)
    have hu := hr.units
    have nd := sc_Machine_init.nd
    have zo : PassesOwn (model P w) (cxOf (L2.CX P w) P w K mg base ["self", "rooms", "journal"] "Machine.__init__" (defScope st_Machine_init) (He.fAd K ("Machine", some "__init__")) cdv A0 outer s H E).A (cxOf (L2.CX P w) P w K mg base ["self", "rooms", "journal"] "Machine.__init__" (defScope st_Machine_init) (He.fAd K ("Machine", some "__init__")) cdv A0 outer s H E).env (cxOf (L2.CX P w) P w K mg base ["self", "rooms", "journal"] "Machine.__init__" (defScope st_Machine_init) (He.fAd K ("Machine", some "__init__")) cdv A0 outer s H E).xe := passes_of rfl
    have zt : Takes (cxOf (L2.CX P w) P w K mg base ["self", "rooms", "journal"] "Machine.__init__" (defScope st_Machine_init) (He.fAd K ("Machine", some "__init__")) cdv A0 outer s H E) (fun cls d _ H => E cls d H) := takes_of rfl rfl rfl rfl
    exact ⟨rdS (rc PR K (gv K) n fun cls d _ H => E cls d H) F_Machine_init.body, (pss_cons (ps_fld (pv 0) (pv 1) rfl) (pss_one (ps_fld (pv 0) (pv 2) rfl))), body_ok (facts T) fn_Machine_init rfl h⟩
theorem ok_Machine_account {P : Program} {w : World} {K : PySem.W.Frag} {mg : Str → Option Value} {base : Heap} {n : Nat} (T : HF K mg) (A : AL P w K mg base n) {fd : FuncData} (F : FN_Machine_account K fd) : FnOk P w K mg base (L2.CX P w) (2 * (n + 1)) (He.fAd K ("Machine", some "account")) fd ["self", "slot"] (spR PR K (n + 1) "Machine.account") :=
  F.ok (k := 2 * n + 1) sc_Machine_account (fun _ _ _ _ h => spR_len fn_Machine_account h) fun cdv A0 outer s H vs Q E hr1 h => by
    have hr : Room (2 * n) (A0.deeper (envOfC "Machine.account" (defScope st_Machine_account) s.heap.objs.size (He.fAd K ("Machine", some "account")) cdv)) := hr1.mono (Nat.le_succ _)
    have hu := hr.units
    have nd := sc_Machine_account.nd
    have zo : PassesOwn (model P w) (cxOf (L2.CX P w) P w K mg base ["self", "slot"] "Machine.account" (defScope st_Machine_account) (He.fAd K ("Machine", some "account")) cdv A0 outer s H E).A (cxOf (L2.CX P w) P w K mg base ["self", "slot"] "Machine.account" (defScope st_Machine_account) (He.fAd K ("Machine", some "account")) cdv A0 outer s H E).env (cxOf (L2.CX P w) P w K mg base ["self", "slot"] "Machine.account" (defScope st_Machine_account) (He.fAd K ("Machine", some "account")) cdv A0 outer s H E).xe := passes_of rfl
    have zt : Takes (cxOf (L2.CX P w) P w K mg base ["self", "slot"] "Machine.account" (defScope st_Machine_account) (He.fAd K ("Machine", some "account")) cdv A0 outer s H E) (fun cls d _ H => E cls d H) := takes_of rfl rfl rfl rfl
    exact ⟨rdS (rc PR K (gv K) n fun cls d _ H => E cls d H) F_Machine_account.body, (pss_cons (ps_if (pt_cmpR (z_lt hu) (pv 1) (zb_len rfl T.b_len (pa_cons (pe_fld (pv 0) rfl) (pa_nil))) (nomark _)) (pss_one (ps_ret (pe_ix ix_seq (pe_fld (pv 0) rfl) (pv 1) (fun _ _ => rfl)))) (pss_nil)) (pss_one (ps_ret (pe_non)))), body_ok (facts T) fn_Machine_account rfl h⟩
theorem ok_Machine_record {P : Program} {w : World} {K : PySem.W.Frag} {mg : Str → Option Value} {base : Heap} {n : Nat} (T : HF K mg) (A : AL P w K mg base n) {fd : FuncData} (F : FN_Machine_record K fd) : FnOk P w K mg base (L2.CX P w) (2 * (n + 1)) (He.fAd K ("Machine", some "record")) fd ["self", "frame", "deed"] (spR PR K (n + 1) "Machine.record") :=
  F.ok (k := 2 * n + 1) sc_Machine_record (fun _ _ _ _ h => spR_len fn_Machine_record h) fun cdv A0 outer s H vs Q E hr1 h => by
    have hr : Room (2 * n) (A0.deeper (envOfC "Machine.record" (defScope st_Machine_record) s.heap.objs.size (He.fAd K ("Machine", some "record")) cdv)) := hr1.mono (Nat.le_succ _)
    have hu := hr.units
    have nd := sc_Machine_record.nd
    have zo : PassesOwn (model P w) (cxOf (L2.CX P w) P w K mg base ["self", "frame", "deed"] "Machine.record" (defScope st_Machine_record) (He.fAd K ("Machine", some "record")) cdv A0 outer s H E).A (cxOf (L2.CX P w) P w K mg base ["self", "frame", "deed"] "Machine.record" (defScope st_Machine_record) (He.fAd K ("Machine", some "record")) cdv A0 outer s H E).env (cxOf (L2.CX P w) P w K mg base ["self", "frame", "deed"] "Machine.record" (defScope st_Machine_record) (He.fAd K ("Machine", some "record")) cdv A0 outer s H E).xe := passes_of rfl
    have zt : Takes (cxOf (L2.CX P w) P w K mg base ["self", "frame", "deed"] "Machine.record" (defScope st_Machine_record) (He.fAd K ("Machine", some "record")) cdv A0 outer s H E) (fun cls d _ H => E cls d H) := takes_of rfl rfl rfl rfl
    exact ⟨rdS (rc PR K (gv K) n fun cls d _ H => E cls d H) F_Machine_record.body, (pss_cons (ps_expr (zmeth (pe_fld (pv 0) rfl) (A.m_write_0) hr zpD (pa_cons (pv 2) (pa_nil)))) (pss_one (ps_expr (zm_append (pe_fld (pv 1) rfl) (pa_cons (zmeth0 (pv 2) (A.m_told_0) hr zpD) (pa_nil)))))), body_ok (facts T) fn_Machine_record rfl h⟩
theorem ok_Machine_cost {P : Program} {w : World} {K : PySem.W.Frag} {mg : Str → Option Value} {base : Heap} {n : Nat} (T : HF K mg) (A : AL P w K mg base n) {fd : FuncData} (F : FN_Machine_cost K fd) : FnOk P w K mg base (L2.CX P w) (2 * (n + 1)) (He.fAd K ("Machine", some "cost")) fd ["self", "frame", "row"] (spR PR K (n + 1) "Machine.cost") :=
  F.ok (k := 2 * n + 1) sc_Machine_cost (fun _ _ _ _ h => spR_len fn_Machine_cost h) fun cdv A0 outer s H vs Q E hr1 h => by
    have hr : Room (2 * n) (A0.deeper (envOfC "Machine.cost" (defScope st_Machine_cost) s.heap.objs.size (He.fAd K ("Machine", some "cost")) cdv)) := hr1.mono (Nat.le_succ _)
    have hu := hr.units
    have nd := sc_Machine_cost.nd
    have zo : PassesOwn (model P w) (cxOf (L2.CX P w) P w K mg base ["self", "frame", "row", "dear", "there"] "Machine.cost" (defScope st_Machine_cost) (He.fAd K ("Machine", some "cost")) cdv A0 outer s H E).A (cxOf (L2.CX P w) P w K mg base ["self", "frame", "row", "dear", "there"] "Machine.cost" (defScope st_Machine_cost) (He.fAd K ("Machine", some "cost")) cdv A0 outer s H E).env (cxOf (L2.CX P w) P w K mg base ["self", "frame", "row", "dear", "there"] "Machine.cost" (defScope st_Machine_cost) (He.fAd K ("Machine", some "cost")) cdv A0 outer s H E).xe := passes_of rfl
    have zt : Takes (cxOf (L2.CX P w) P w K mg base ["self", "frame", "row", "dear", "there"] "Machine.cost" (defScope st_Machine_cost) (He.fAd K ("Machine", some "cost")) cdv A0 outer s H E) (fun cls d _ H => E cls d H) := takes_of rfl rfl rfl rfl
    exact ⟨rdS (rc PR K (gv K) n fun cls d _ H => E cls d H) F_Machine_cost.body, (pss_cons (zset 3 nd (pe_bl)) (pss_cons (ps_if (pt_cmpR (z_eq hu) (pe_ix ix_seq (pv 2) (pe_int) (fun _ _ => rfl)) (pe_str) (nomark _)) (pss_cons (zset 4 nd (zmeth (pe_ix ix_seq (pe_fld (pv 0) rfl) (pe_fld (pv 1) rfl) (fun _ _ => rfl)) (A.m_loaded_0) hr zpD (pa_cons (pe_ix ix_seq (pe_fld (pv 1) rfl) (pe_un un_neg (pe_int)) (fun _ _ => rfl)) (pa_nil)))) (pss_one (zset 3 nd (pe_and (pe_cmpR (z_eq hu) (pv 4) (pe_int) (nomark _)) (pe_one (pe_cmpR (z_ne hu) (pe_ix ix_seq (pe_fld (pv 1) rfl) (pe_un un_neg (pe_int)) (fun _ _ => rfl)) (pe_int) (nomark _))))))) (pss_one (ps_if (pt_cmpR (z_eq hu) (pe_ix ix_seq (pv 2) (pe_int) (fun _ _ => rfl)) (pe_str) (nomark _)) (pss_one (zset 3 nd (pe_cmpR (z_gt hu) (pe_ix ix_seq (pe_fld (pv 1) rfl) (pe_un un_neg (pe_int)) (fun _ _ => rfl)) (pe_int) (nomark _)))) (pss_nil)))) (pss_one (ps_ret (zcall (A.price) hr rfl T.g_price zpD (pa_cons (pv 2) (pa_cons (pv 3) (pa_nil)))))))), body_ok (facts T) fn_Machine_cost rfl h⟩
theorem ok_Machine_fault {P : Program} {w : World} {K : PySem.W.Frag} {mg : Str → Option Value} {base : Heap} {n : Nat} (T : HF K mg) (A : AL P w K mg base n) {fd : FuncData} (F : FN_Machine_fault K fd) : FnOk P w K mg base (L2.CX P w) (2 * (n + 1)) (He.fAd K ("Machine", some "fault")) fd ["self", "frame", "row"] (spR PR K (n + 1) "Machine.fault") :=
  F.ok (k := 2 * n + 1) sc_Machine_fault (fun _ _ _ _ h => spR_len fn_Machine_fault h) fun cdv A0 outer s H vs Q E hr1 h => by
    have hr : Room (2 * n) (A0.deeper (envOfC "Machine.fault" (defScope st_Machine_fault) s.heap.objs.size (He.fAd K ("Machine", some "fault")) cdv)) := hr1.mono (Nat.le_succ _)
    have hu := hr.units
    have nd := sc_Machine_fault.nd
    have zo : PassesOwn (model P w) (cxOf (L2.CX P w) P w K mg base ["self", "frame", "row"] "Machine.fault" (defScope st_Machine_fault) (He.fAd K ("Machine", some "fault")) cdv A0 outer s H E).A (cxOf (L2.CX P w) P w K mg base ["self", "frame", "row"] "Machine.fault" (defScope st_Machine_fault) (He.fAd K ("Machine", some "fault")) cdv A0 outer s H E).env (cxOf (L2.CX P w) P w K mg base ["self", "frame", "row"] "Machine.fault" (defScope st_Machine_fault) (He.fAd K ("Machine", some "fault")) cdv A0 outer s H E).xe := passes_of rfl
    have zt : Takes (cxOf (L2.CX P w) P w K mg base ["self", "frame", "row"] "Machine.fault" (defScope st_Machine_fault) (He.fAd K ("Machine", some "fault")) cdv A0 outer s H E) (fun cls d _ H => E cls d H) := takes_of rfl rfl rfl rfl
    exact ⟨rdS (rc PR K (gv K) n fun cls d _ H => E cls d H) F_Machine_fault.body, (pss_cons (ps_if (ztru (zmeth (pv 1) (A.m_is_short_0) hr zpD (pa_cons (pv 2) (pa_nil)))) (pss_one (ps_ret (pe_str))) (pss_nil)) (pss_cons (ps_if (ztru (zmeth (pv 1) (A.m_is_full_0) hr zpD (pa_cons (pv 2) (pa_nil)))) (pss_one (ps_ret (pe_str))) (pss_nil)) (pss_cons (ps_if (PW.pt (pw_and (ztru (pe_fld (pv 1) rfl)) (pw_and1 (ztru (zcall (A.is_change) hr rfl T.g_is_change zpD (pa_cons (pv 2) (pa_cons (pe_fld (pv 1) rfl) (pa_nil)))))))) (pss_one (ps_ret (pe_str))) (pss_nil)) (pss_cons (ps_if (pt_cmpR (z_gt hu) (zmeth (pv 0) (A.m_cost_0) hr zpD (pa_cons (pv 1) (pa_cons (pv 2) (pa_nil)))) (pe_op z_sub (pe_fld (pv 1) rfl) (pe_fld (pv 1) rfl)) (nomark _)) (pss_one (ps_ret (pe_str))) (pss_nil)) (pss_one (ps_ret (pe_str))))))), body_ok (facts T) fn_Machine_fault rfl h⟩
theorem ok_Machine_unbegun {P : Program} {w : World} {K : PySem.W.Frag} {mg : Str → Option Value} {base : Heap} {n : Nat} (T : HF K mg) (A : AL P w K mg base n) {fd : FuncData} (F : FN_Machine_unbegun K fd) : FnOk P w K mg base (L2.CX P w) (2 * (n + 1)) (He.fAd K ("Machine", some "unbegun")) fd ["self", "frame", "inner", "slot"] (spR PR K (n + 1) "Machine.unbegun") :=
  F.ok (k := 2 * n + 1) sc_Machine_unbegun (fun _ _ _ _ h => spR_len fn_Machine_unbegun h) fun cdv A0 outer s H vs Q E hr1 h => by
    have hr : Room (2 * n) (A0.deeper (envOfC "Machine.unbegun" (defScope st_Machine_unbegun) s.heap.objs.size (He.fAd K ("Machine", some "unbegun")) cdv)) := hr1.mono (Nat.le_succ _)
    have hu := hr.units
    have nd := sc_Machine_unbegun.nd
    have zo : PassesOwn (model P w) (cxOf (L2.CX P w) P w K mg base ["self", "frame", "inner", "slot"] "Machine.unbegun" (defScope st_Machine_unbegun) (He.fAd K ("Machine", some "unbegun")) cdv A0 outer s H E).A (cxOf (L2.CX P w) P w K mg base ["self", "frame", "inner", "slot"] "Machine.unbegun" (defScope st_Machine_unbegun) (He.fAd K ("Machine", some "unbegun")) cdv A0 outer s H E).env (cxOf (L2.CX P w) P w K mg base ["self", "frame", "inner", "slot"] "Machine.unbegun" (defScope st_Machine_unbegun) (He.fAd K ("Machine", some "unbegun")) cdv A0 outer s H E).xe := passes_of rfl
    have zt : Takes (cxOf (L2.CX P w) P w K mg base ["self", "frame", "inner", "slot"] "Machine.unbegun" (defScope st_Machine_unbegun) (He.fAd K ("Machine", some "unbegun")) cdv A0 outer s H E) (fun cls d _ H => E cls d H) := takes_of rfl rfl rfl rfl
    exact ⟨rdS (rc PR K (gv K) n fun cls d _ H => E cls d H) F_Machine_unbegun.body, (pss_cons (ps_if (pt_cmpR (z_isN hu) (zmeth (pv 0) (A.m_account_0) hr zpD (pa_cons (pv 3) (pa_nil))) (pe_non) (nomark _)) (pss_one (ps_ret (pe_str))) (pss_nil)) (pss_cons (ps_if (pt_cmpR (z_gt hu) (pe_fld (pv 2) rfl) (zglo T.k_DEEP) (nomark _)) (pss_one (ps_ret (pe_str))) (pss_nil)) (pss_cons (ps_if (PW.pt (pw_and (pt_cmpR (z_eq hu) (pe_fld (pv 2) rfl) (pe_str) (nomark _)) (pw_and1 (pt_cmpR (z_gt hu) (pe_fld (pv 2) rfl) (pe_fld (pe_ix ix_seq (pe_fld (pv 0) rfl) (pe_fld (pv 1) rfl) (fun _ _ => rfl)) rfl) (nomark _))))) (pss_one (ps_ret (pe_str))) (pss_nil)) (pss_one (ps_ret (pe_str)))))), body_ok (facts T) fn_Machine_unbegun rfl h⟩
theorem ok_Machine_inner_call {P : Program} {w : World} {K : PySem.W.Frag} {mg : Str → Option Value} {base : Heap} {n : Nat} (T : HF K mg) (A : AL P w K mg base n) {fd : FuncData} (F : FN_Machine_inner_call K fd) : FnOk P w K mg base (L2.CX P w) (2 * (n + 1)) (He.fAd K ("Machine", some "inner_call")) fd ["self", "frame", "kind"] (spR PR K (n + 1) "Machine.inner_call") :=
  F.ok (k := 2 * n + 1) sc_Machine_inner_call (fun _ _ _ _ h => spR_len fn_Machine_inner_call h) fun cdv A0 outer s H vs Q E hr1 h => by
    have hr : Room (2 * n) (A0.deeper (envOfC "Machine.inner_call" (defScope st_Machine_inner_call) s.heap.objs.size (He.fAd K ("Machine", some "inner_call")) cdv)) := hr1.mono (Nat.le_succ _)
    have hu := hr.units
    have nd := sc_Machine_inner_call.nd
    have zo : PassesOwn (model P w) (cxOf (L2.CX P w) P w K mg base ["self", "frame", "kind", "word", "asked", "coin", "slot", "inner"] "Machine.inner_call" (defScope st_Machine_inner_call) (He.fAd K ("Machine", some "inner_call")) cdv A0 outer s H E).A (cxOf (L2.CX P w) P w K mg base ["self", "frame", "kind", "word", "asked", "coin", "slot", "inner"] "Machine.inner_call" (defScope st_Machine_inner_call) (He.fAd K ("Machine", some "inner_call")) cdv A0 outer s H E).env (cxOf (L2.CX P w) P w K mg base ["self", "frame", "kind", "word", "asked", "coin", "slot", "inner"] "Machine.inner_call" (defScope st_Machine_inner_call) (He.fAd K ("Machine", some "inner_call")) cdv A0 outer s H E).xe := passes_of rfl
    have zt : Takes (cxOf (L2.CX P w) P w K mg base ["self", "frame", "kind", "word", "asked", "coin", "slot", "inner"] "Machine.inner_call" (defScope st_Machine_inner_call) (He.fAd K ("Machine", some "inner_call")) cdv A0 outer s H E) (fun cls d _ H => E cls d H) := takes_of rfl rfl rfl rfl
    exact ⟨rdS (rc PR K (gv K) n fun cls d _ H => E cls d H) F_Machine_inner_call.body, (pss_cons (zset 3 nd (zm_pop (pe_fld (pv 1) rfl))) (pss_cons (zset 4 nd (zm_pop (pe_fld (pv 1) rfl))) (pss_cons (zset 5 nd (pe_int)) (pss_cons (ps_if (pt_cmpR (z_eq hu) (pv 2) (pe_str) (nomark _)) (pss_one (zset 5 nd (zm_pop (pe_fld (pv 1) rfl)))) (pss_nil)) (pss_cons (zset 6 nd (zm_pop (pe_fld (pv 1) rfl))) (pss_cons (ps_if (pt_cmpR (z_eq hu) (pv 2) (pe_str) (nomark _)) (pss_one (zset 7 nd (zmake A.mk_Frame hr1 rfl T.g_Frame zpD (pa_cons (pv 2) (pa_cons (pe_fld (pv 1) rfl) (pa_cons (pv 6) (pa_cons (pe_fld (pv 1) rfl) (pa_cons (pe_fld (pv 1) rfl) (pa_cons (pv 3) (pa_nil)))))))))) (pss_one (zset 7 nd (zmake A.mk_Frame hr1 rfl T.g_Frame zpD (pa_cons (pv 2) (pa_cons (pv 6) (pa_cons (pv 6) (pa_cons (pe_fld (pv 1) rfl) (pa_cons (pv 5) (pa_cons (pv 3) (pa_nil))))))))))) (pss_cons (ps_fld (pv 7) (pe_op z_add (pe_fld (pv 1) rfl) (pe_int)) rfl) (pss_cons (ps_fld (pv 7) (pe_or (pe_fld (pv 7) rfl) (pe_one (pe_fld (pv 1) rfl))) rfl) (pss_one (ps_ret (pe_tup (pa_cons (pv 7) (pa_cons (pv 6) (pa_cons (pv 4) (pa_nil))))))))))))))), body_ok (facts T) fn_Machine_inner_call rfl h⟩
theorem ok_Machine_begin {P : Program} {w : World} {K : PySem.W.Frag} {mg : Str → Option Value} {base : Heap} {n : Nat} (T : HF K mg) (A : AL P w K mg base n) {fd : FuncData} (F : FN_Machine_begin K fd) : FnOk P w K mg base (L2.CX P w) (2 * (n + 1)) (He.fAd K ("Machine", some "begin")) fd ["self", "frame", "kind"] (spR PR K (n + 1) "Machine.begin") :=
  F.ok (k := 2 * n + 1) sc_Machine_begin (fun _ _ _ _ h => spR_len fn_Machine_begin h) fun cdv A0 outer s H vs Q E hr1 h => by
    have hr : Room (2 * n) (A0.deeper (envOfC "Machine.begin" (defScope st_Machine_begin) s.heap.objs.size (He.fAd K ("Machine", some "begin")) cdv)) := hr1.mono (Nat.le_succ _)
    have hu := hr.units
    have nd := sc_Machine_begin.nd
    have zo : PassesOwn (model P w) (cxOf (L2.CX P w) P w K mg base ["self", "frame", "kind", "inner", "slot", "asked", "end"] "Machine.begin" (defScope st_Machine_begin) (He.fAd K ("Machine", some "begin")) cdv A0 outer s H E).A (cxOf (L2.CX P w) P w K mg base ["self", "frame", "kind", "inner", "slot", "asked", "end"] "Machine.begin" (defScope st_Machine_begin) (He.fAd K ("Machine", some "begin")) cdv A0 outer s H E).env (cxOf (L2.CX P w) P w K mg base ["self", "frame", "kind", "inner", "slot", "asked", "end"] "Machine.begin" (defScope st_Machine_begin) (He.fAd K ("Machine", some "begin")) cdv A0 outer s H E).xe := passes_of rfl
    have zt : Takes (cxOf (L2.CX P w) P w K mg base ["self", "frame", "kind", "inner", "slot", "asked", "end"] "Machine.begin" (defScope st_Machine_begin) (He.fAd K ("Machine", some "begin")) cdv A0 outer s H E) (fun cls d _ H => E cls d H) := takes_of rfl rfl rfl rfl
    exact ⟨rdS (rc PR K (gv K) n fun cls d _ H => E cls d H) F_Machine_begin.body, (pss_cons (ps_asg (zmeth (pv 0) (A.m_inner_call_0) hr zpD (pa_cons (pv 1) (pa_cons (pv 2) (pa_nil)))) (zg_seq (is := [3, 4, 5]) rfl (pgs_cons (znm 3 nd) (pgs_cons (znm 4 nd) (pgs_cons (znm 5 nd) (pgs_nil)))))) (pss_cons (zset 6 nd (zmeth (pv 0) (A.m_unbegun_0) hr zpD (pa_cons (pv 1) (pa_cons (pv 3) (pa_cons (pv 4) (pa_nil)))))) (pss_cons (ps_if (pt_cmpR (z_ne hu) (pv 6) (pe_str) (nomark _)) (pss_one (ps_expr (zmeth (pv 3) (A.m_finish_0) hr zpD (pa_cons (pv 6) (pa_cons (pe_int) (pa_nil)))))) (pss_cons (ps_fld (pv 3) (zb_min2 rfl rfl T.b_min (pa_cons (pv 5) (pa_cons (pe_op z_sub (pe_fld (pv 1) rfl) (pe_fld (pv 1) rfl)) (pa_nil)))) rfl) (pss_one (ps_expr (zmeth (pv 0) (A.m_go_0) hr zpD (pa_cons (pv 3) (pa_nil))))))) (pss_cons (ps_fldaug (pv 1) (pe_fld (pv 3) rfl) z_fadd) (pss_cons (ps_expr (zm_append (pe_fld (pv 1) rfl) (pa_cons (zmeth0 (pv 3) (A.m_tree_0) hr zpD) (pa_nil)))) (pss_cons (ps_expr (zm_append (pe_fld (pv 1) rfl) (pa_cons (pe_fld (pv 3) rfl) (pa_nil)))) (pss_one (ps_expr (zm_append (pe_fld (pv 1) rfl) (pa_cons (zb_int rfl T.b_int (pa_cons (pe_cmpR (z_eq hu) (pe_fld (pv 3) rfl) (pe_str) (nomark _)) (pa_nil))) (pa_nil))))))))))), body_ok (facts T) fn_Machine_begin rfl h⟩
theorem ok_Machine_done {P : Program} {w : World} {K : PySem.W.Frag} {mg : Str → Option Value} {base : Heap} {n : Nat} (T : HF K mg) (A : AL P w K mg base n) {fd : FuncData} (F : FN_Machine_done K fd) : FnOk P w K mg base (L2.CX P w) (2 * (n + 1)) (He.fAd K ("Machine", some "done")) fd ["self", "frame", "row"] (spR PR K (n + 1) "Machine.done") :=
  F.ok (k := 2 * n + 1) sc_Machine_done (fun _ _ _ _ h => spR_len fn_Machine_done h) fun cdv A0 outer s H vs Q E hr1 h => by
    have hr : Room (2 * n) (A0.deeper (envOfC "Machine.done" (defScope st_Machine_done) s.heap.objs.size (He.fAd K ("Machine", some "done")) cdv)) := hr1.mono (Nat.le_succ _)
    have hu := hr.units
    have nd := sc_Machine_done.nd
    have zo : PassesOwn (model P w) (cxOf (L2.CX P w) P w K mg base ["self", "frame", "row", "word", "stack", "there", "new", "place"] "Machine.done" (defScope st_Machine_done) (He.fAd K ("Machine", some "done")) cdv A0 outer s H E).A (cxOf (L2.CX P w) P w K mg base ["self", "frame", "row", "word", "stack", "there", "new", "place"] "Machine.done" (defScope st_Machine_done) (He.fAd K ("Machine", some "done")) cdv A0 outer s H E).env (cxOf (L2.CX P w) P w K mg base ["self", "frame", "row", "word", "stack", "there", "new", "place"] "Machine.done" (defScope st_Machine_done) (He.fAd K ("Machine", some "done")) cdv A0 outer s H E).xe := passes_of rfl
    have zt : Takes (cxOf (L2.CX P w) P w K mg base ["self", "frame", "row", "word", "stack", "there", "new", "place"] "Machine.done" (defScope st_Machine_done) (He.fAd K ("Machine", some "done")) cdv A0 outer s H E) (fun cls d _ H => E cls d H) := takes_of rfl rfl rfl rfl
    exact ⟨rdS (rc PR K (gv K) n fun cls d _ H => E cls d H) F_Machine_done.body, (pss_cons (zset 3 nd (pe_ix ix_seq (pv 2) (pe_int) (fun _ _ => rfl))) (pss_cons (zset 4 nd (pe_fld (pv 1) rfl)) (pss_one (ps_if (pt_cmpR (z_in hu) (pv 3) (pe_tup (pa_cons (pe_str) (pa_cons (pe_str) (pa_cons (pe_str) (pa_nil))))) (by rfl)) (pss_one (ps_expr (zmeth (pv 0) (A.m_begin_0) hr zpD (pa_cons (pv 1) (pa_cons (pv 3) (pa_nil)))))) (pss_one (ps_if (pt_cmpR (z_eq hu) (pv 3) (pe_str) (nomark _)) (pss_one (ps_expr (zm_append (pv 4) (pa_cons (zmeth (pe_ix ix_seq (pe_fld (pv 0) rfl) (pe_fld (pv 1) rfl) (fun _ _ => rfl)) (A.m_loaded_0) hr zpD (pa_cons (zm_pop (pv 4)) (pa_nil))) (pa_nil))))) (pss_one (ps_if (pt_cmpR (z_eq hu) (pv 3) (pe_str) (nomark _)) (pss_cons (zset 5 nd (zmeth (pv 0) (A.m_account_0) hr zpD (pa_cons (zm_pop (pv 4)) (pa_nil)))) (pss_one (ps_if (pt_cmpR (z_isN hu) (pv 5) (pe_non) (nomark _)) (pss_one (ps_expr (zm_append (pv 4) (pa_cons (pe_int) (pa_nil))))) (pss_one (ps_expr (zm_append (pv 4) (pa_cons (pe_fld (pv 5) rfl) (pa_nil)))))))) (pss_one (ps_if (pt_cmpR (z_eq hu) (pv 3) (pe_str) (nomark _)) (pss_cons (zset 6 nd (zm_pop (pv 4))) (pss_cons (zset 7 nd (zm_pop (pv 4))) (pss_one (ps_expr (zmeth (pv 0) (A.m_record_0) hr zpD (pa_cons (pv 1) (pa_cons (zmake A.mk_Save hr1 rfl T.g_Save zpD (pa_cons (pe_fld (pv 1) rfl) (pa_cons (pv 7) (pa_cons (zmeth (pe_ix ix_seq (pe_fld (pv 0) rfl) (pe_fld (pv 1) rfl) (fun _ _ => rfl)) (A.m_loaded_0) hr zpD (pa_cons (pv 7) (pa_nil))) (pa_cons (pv 6) (pa_nil)))))) (pa_nil)))))))) (pss_one (ps_if (pt_cmpR (z_eq hu) (pv 3) (pe_str) (nomark _)) (pss_one (ps_expr (zmeth (pv 0) (A.m_record_0) hr zpD (pa_cons (pv 1) (pa_cons (zmake A.mk_Note hr1 rfl T.g_Note zpD (pa_cons (pe_fld (pv 1) rfl) (pa_cons (zm_pop (pv 4)) (pa_nil)))) (pa_nil)))))) (pss_one (ps_expr (zmeth (pv 1) (A.m_plain_row_0) hr zpD (pa_cons (pv 2) (pa_nil))))))))))))))))), body_ok (facts T) fn_Machine_done rfl h⟩
theorem ok_Machine_step {P : Program} {w : World} {K : PySem.W.Frag} {mg : Str → Option Value} {base : Heap} {n : Nat} (T : HF K mg) (A : AL P w K mg base n) {fd : FuncData} (F : FN_Machine_step K fd) : FnOk P w K mg base (L2.CX P w) (2 * (n + 1)) (He.fAd K ("Machine", some "step")) fd ["self", "frame"] (spR PR K (n + 1) "Machine.step") :=
  F.ok (k := 2 * n + 1) sc_Machine_step (fun _ _ _ _ h => spR_len fn_Machine_step h) fun cdv A0 outer s H vs Q E hr1 h => by
    have hr : Room (2 * n) (A0.deeper (envOfC "Machine.step" (defScope st_Machine_step) s.heap.objs.size (He.fAd K ("Machine", some "step")) cdv)) := hr1.mono (Nat.le_succ _)
    have hu := hr.units
    have nd := sc_Machine_step.nd
    have zo : PassesOwn (model P w) (cxOf (L2.CX P w) P w K mg base ["self", "frame", "program", "row", "end"] "Machine.step" (defScope st_Machine_step) (He.fAd K ("Machine", some "step")) cdv A0 outer s H E).A (cxOf (L2.CX P w) P w K mg base ["self", "frame", "program", "row", "end"] "Machine.step" (defScope st_Machine_step) (He.fAd K ("Machine", some "step")) cdv A0 outer s H E).env (cxOf (L2.CX P w) P w K mg base ["self", "frame", "program", "row", "end"] "Machine.step" (defScope st_Machine_step) (He.fAd K ("Machine", some "step")) cdv A0 outer s H E).xe := passes_of rfl
    have zt : Takes (cxOf (L2.CX P w) P w K mg base ["self", "frame", "program", "row", "end"] "Machine.step" (defScope st_Machine_step) (He.fAd K ("Machine", some "step")) cdv A0 outer s H E) (fun cls d _ H => E cls d H) := takes_of rfl rfl rfl rfl
    exact ⟨rdS (rc PR K (gv K) n fun cls d _ H => E cls d H) F_Machine_step.body, (pss_cons (zset 2 nd (pe_fld (pe_ix ix_seq (pe_fld (pv 0) rfl) (pe_fld (pv 1) rfl) (fun _ _ => rfl)) rfl)) (pss_one (ps_if (pt_cmpR (z_eq hu) (pe_fld (pv 1) rfl) (zb_len rfl T.b_len (pa_cons (pv 2) (pa_nil))) (nomark _)) (pss_one (ps_expr (zmeth (pv 1) (A.m_finish_0) hr zpD (pa_cons (pe_str) (pa_cons (pe_int) (pa_nil)))))) (pss_cons (zset 3 nd (pe_ix ix_seq (pv 2) (pe_fld (pv 1) rfl) (fun _ _ => rfl))) (pss_cons (zset 4 nd (zmeth (pv 0) (A.m_fault_0) hr zpD (pa_cons (pv 1) (pa_cons (pv 3) (pa_nil))))) (pss_one (ps_if (pt_cmpR (z_ne hu) (pv 4) (pe_str) (nomark _)) (pss_one (ps_expr (zmeth (pv 1) (A.m_finish_0) hr zpD (pa_cons (pv 4) (pa_cons (pe_int) (pa_nil)))))) (pss_cons (ps_fldaug (pv 1) (zmeth (pv 0) (A.m_cost_0) hr zpD (pa_cons (pv 1) (pa_cons (pv 3) (pa_nil)))) z_fadd) (pss_cons (ps_expr (zm_append (pe_fld (pv 1) rfl) (pa_cons (pe_fld (pv 1) rfl) (pa_nil)))) (pss_cons (ps_fldaug (pv 1) (pe_int) z_fadd) (pss_one (ps_expr (zmeth (pv 0) (A.m_done_0) hr zpD (pa_cons (pv 1) (pa_cons (pv 3) (pa_nil)))))))))))))))), body_ok (facts T) fn_Machine_step rfl h⟩
theorem ok_Machine_go {P : Program} {w : World} {K : PySem.W.Frag} {mg : Str → Option Value} {base : Heap} {n : Nat} (T : HF K mg) (A : AL P w K mg base n) {fd : FuncData} (F : FN_Machine_go K fd) : FnOk P w K mg base (L2.CX P w) (2 * (n + 1)) (He.fAd K ("Machine", some "go")) fd ["self", "frame"] (spR PR K (n + 1) "Machine.go") :=
  F.ok (k := 2 * n + 1) sc_Machine_go (fun _ _ _ _ h => spR_len fn_Machine_go h) fun cdv A0 outer s H vs Q E hr1 h => by
    have hr : Room (2 * n) (A0.deeper (envOfC "Machine.go" (defScope st_Machine_go) s.heap.objs.size (He.fAd K ("Machine", some "go")) cdv)) := hr1.mono (Nat.le_succ _)
    have hu := hr.units
    have nd := sc_Machine_go.nd
    have zo : PassesOwn (model P w) (cxOf (L2.CX P w) P w K mg base ["self", "frame", "mark"] "Machine.go" (defScope st_Machine_go) (He.fAd K ("Machine", some "go")) cdv A0 outer s H E).A (cxOf (L2.CX P w) P w K mg base ["self", "frame", "mark"] "Machine.go" (defScope st_Machine_go) (He.fAd K ("Machine", some "go")) cdv A0 outer s H E).env (cxOf (L2.CX P w) P w K mg base ["self", "frame", "mark"] "Machine.go" (defScope st_Machine_go) (He.fAd K ("Machine", some "go")) cdv A0 outer s H E).xe := passes_of rfl
    have zt : Takes (cxOf (L2.CX P w) P w K mg base ["self", "frame", "mark"] "Machine.go" (defScope st_Machine_go) (He.fAd K ("Machine", some "go")) cdv A0 outer s H E) (fun cls d _ H => E cls d H) := takes_of rfl rfl rfl rfl
    exact ⟨rdS (rc PR K (gv K) n fun cls d _ H => E cls d H) F_Machine_go.body, (pss_cons (zset 2 nd (zmeth0 (pe_fld (pv 0) rfl) (A.m_mark_0) hr zpD)) (pss_cons (ps_if (PW.pt (pw_and (pt_cmpR (z_eq hu) (pe_fld (pv 1) rfl) (pe_str) (nomark _)) (pw_and1 (pt_cmpR (z_gt hu) (pe_fld (pv 1) rfl) (pe_int) (nomark _))))) (pss_one (ps_expr (zmeth (pv 0) (A.m_record_0) hr zpD (pa_cons (pv 1) (pa_cons (zmake A.mk_Move hr1 rfl T.g_Move zpD (pa_cons (pe_fld (pv 1) rfl) (pa_cons (pe_fld (pv 1) rfl) (pa_cons (pe_fld (pv 1) rfl) (pa_nil))))) (pa_nil)))))) (pss_nil)) (pss_cons (ps_while zo (pt_cmpR (z_eq hu) (pe_fld (pv 1) rfl) (pe_str) (nomark _)) (pss_one (ps_expr (zmeth (pv 0) (A.m_step_0) hr zpD (pa_cons (pv 1) (pa_nil)))))) (pss_one (ps_if (pt_cmpR (z_ne hu) (pe_fld (pv 1) rfl) (pe_str) (nomark _)) (pss_one (ps_expr (zmeth (pe_fld (pv 0) rfl) (A.m_back_0) hr zpD (pa_cons (pv 2) (pa_nil))))) (pss_nil)))))), body_ok (facts T) fn_Machine_go rfl h⟩
theorem ok_enter {P : Program} {w : World} {K : PySem.W.Frag} {mg : Str → Option Value} {base : Heap} {n : Nat} (T : HF K mg) (A : AL P w K mg base n) {fd : FuncData} (F : FN_enter K fd) : FnOk P w K mg base (L2.CX P w) (2 * (n + 1)) (He.fAd K ("enter", none)) fd ["rooms", "journal", "caller", "who", "coin", "word", "given"] (spR PR K (n + 1) "enter") :=
  F.ok (k := 2 * n + 1) sc_enter (fun _ _ _ _ h => spR_len fn_enter h) fun cdv A0 outer s H vs Q E hr1 h => by
    have hr : Room (2 * n) (A0.deeper (envOfC "enter" (defScope st_enter) s.heap.objs.size (He.fAd K ("enter", none)) cdv)) := hr1.mono (Nat.le_succ _)
    have hu := hr.units
    have nd := sc_enter.nd
    have zo : PassesOwn (model P w) (cxOf (L2.CX P w) P w K mg base ["rooms", "journal", "caller", "who", "coin", "word", "given", "frame"] "enter" (defScope st_enter) (He.fAd K ("enter", none)) cdv A0 outer s H E).A (cxOf (L2.CX P w) P w K mg base ["rooms", "journal", "caller", "who", "coin", "word", "given", "frame"] "enter" (defScope st_enter) (He.fAd K ("enter", none)) cdv A0 outer s H E).env (cxOf (L2.CX P w) P w K mg base ["rooms", "journal", "caller", "who", "coin", "word", "given", "frame"] "enter" (defScope st_enter) (He.fAd K ("enter", none)) cdv A0 outer s H E).xe := passes_of rfl
    have zt : Takes (cxOf (L2.CX P w) P w K mg base ["rooms", "journal", "caller", "who", "coin", "word", "given", "frame"] "enter" (defScope st_enter) (He.fAd K ("enter", none)) cdv A0 outer s H E) (fun cls d _ H => E cls d H) := takes_of rfl rfl rfl rfl
    exact ⟨rdS (rc PR K (gv K) n fun cls d _ H => E cls d H) F_enter.body, (pss_cons (zset 7 nd (zmake A.mk_Frame hr1 rfl T.g_Frame zpD (pa_cons (pe_str) (pa_cons (pv 3) (pa_cons (pv 3) (pa_cons (pv 2) (pa_cons (pv 4) (pa_cons (pv 5) (pa_nil))))))))) (pss_cons (ps_fld (pv 7) (pv 6) rfl) (pss_cons (ps_expr (zmeth (zmake A.mk_Machine hr1 rfl T.g_Machine zpD (pa_cons (pv 0) (pa_cons (pv 1) (pa_nil)))) (A.m_go_0) hr zpD (pa_cons (pv 7) (pa_nil)))) (pss_one (ps_ret (zmeth0 (pv 7) (A.m_tree_0) hr zpD)))))), body_ok (facts T) fn_enter rfl h⟩
theorem ok_Account_init {P : Program} {w : World} {K : PySem.W.Frag} {mg : Str → Option Value} {base : Heap} {n : Nat} (T : HF K mg) (A : AL P w K mg base n) {fd : FuncData} (F : FN_Account_init K fd) : FnOk P w K mg base (L2.CX P w) (2 * (n + 1)) (He.fAd K ("Account", some "__init__")) fd ["self", "coin", "purse", "program"] (spR PR K (n + 1) "Account.__init__") :=
  F.ok (k := 2 * n + 1) sc_Account_init (fun _ _ _ _ h => spR_len fn_Account_init h) fun cdv A0 outer s H vs Q E hr1 h => by
    have hr : Room (2 * n) (A0.deeper (envOfC "Account.__init__" (defScope st_Account_init) s.heap.objs.size (He.fAd K ("Account", some "__init__")) cdv)) := hr1.mono (Nat.le_succ _)
    have hu := hr.units
    have nd := sc_Account_init.nd
    have zo : PassesOwn (model P w) (cxOf (L2.CX P w) P w K mg base ["self", "coin", "purse", "program"] "Account.__init__" (defScope st_Account_init) (He.fAd K ("Account", some "__init__")) cdv A0 outer s H E).A (cxOf (L2.CX P w) P w K mg base ["self", "coin", "purse", "program"] "Account.__init__" (defScope st_Account_init) (He.fAd K ("Account", some "__init__")) cdv A0 outer s H E).env (cxOf (L2.CX P w) P w K mg base ["self", "coin", "purse", "program"] "Account.__init__" (defScope st_Account_init) (He.fAd K ("Account", some "__init__")) cdv A0 outer s H E).xe := passes_of rfl
    have zt : Takes (cxOf (L2.CX P w) P w K mg base ["self", "coin", "purse", "program"] "Account.__init__" (defScope st_Account_init) (He.fAd K ("Account", some "__init__")) cdv A0 outer s H E) (fun cls d _ H => E cls d H) := takes_of rfl rfl rfl rfl
    exact ⟨rdS (rc PR K (gv K) n fun cls d _ H => E cls d H) F_Account_init.body, (pss_cons (ps_fld (pv 0) (pv 1) rfl) (pss_cons (ps_fld (pv 0) (pv 2) rfl) (pss_cons (ps_fld (pv 0) (pe_int) rfl) (pss_cons (ps_fld (pv 0) (zb_list rfl rfl T.b_list (pa_cons (pv 3) (pa_nil))) rfl) (pss_one (ps_fld (pv 0) (pe_dnewK) rfl)))))), body_ok (facts T) fn_Account_init rfl h⟩
theorem ok_Account_loaded {P : Program} {w : World} {K : PySem.W.Frag} {mg : Str → Option Value} {base : Heap} {n : Nat} (T : HF K mg) (A : AL P w K mg base n) {fd : FuncData} (F : FN_Account_loaded K fd) : FnOk P w K mg base (L2.CX P w) (2 * (n + 1)) (He.fAd K ("Account", some "loaded")) fd ["self", "place"] (spR PR K (n + 1) "Account.loaded") :=
  F.ok (k := 2 * n + 1) sc_Account_loaded (fun _ _ _ _ h => spR_len fn_Account_loaded h) fun cdv A0 outer s H vs Q E hr1 h => by
    have hr : Room (2 * n) (A0.deeper (envOfC "Account.loaded" (defScope st_Account_loaded) s.heap.objs.size (He.fAd K ("Account", some "loaded")) cdv)) := hr1.mono (Nat.le_succ _)
    have hu := hr.units
    have nd := sc_Account_loaded.nd
    have zo : PassesOwn (model P w) (cxOf (L2.CX P w) P w K mg base ["self", "place"] "Account.loaded" (defScope st_Account_loaded) (He.fAd K ("Account", some "loaded")) cdv A0 outer s H E).A (cxOf (L2.CX P w) P w K mg base ["self", "place"] "Account.loaded" (defScope st_Account_loaded) (He.fAd K ("Account", some "loaded")) cdv A0 outer s H E).env (cxOf (L2.CX P w) P w K mg base ["self", "place"] "Account.loaded" (defScope st_Account_loaded) (He.fAd K ("Account", some "loaded")) cdv A0 outer s H E).xe := passes_of rfl
    have zt : Takes (cxOf (L2.CX P w) P w K mg base ["self", "place"] "Account.loaded" (defScope st_Account_loaded) (He.fAd K ("Account", some "loaded")) cdv A0 outer s H E) (fun cls d _ H => E cls d H) := takes_of rfl rfl rfl rfl
    exact ⟨rdS (rc PR K (gv K) n fun cls d _ H => E cls d H) F_Account_loaded.body, (pss_one (ps_ret (zm_get2 hu (pe_fld (pv 0) rfl) (pv 1) (pe_int)))), body_ok (facts T) fn_Account_loaded rfl h⟩
theorem ok_Account_keep {P : Program} {w : World} {K : PySem.W.Frag} {mg : Str → Option Value} {base : Heap} {n : Nat} (T : HF K mg) (A : AL P w K mg base n) {fd : FuncData} (F : FN_Account_keep K fd) : FnOk P w K mg base (L2.CX P w) (2 * (n + 1)) (He.fAd K ("Account", some "keep")) fd ["self", "place", "number"] (spR PR K (n + 1) "Account.keep") :=
  F.ok (k := 2 * n + 1) sc_Account_keep (fun _ _ _ _ h => spR_len fn_Account_keep h) fun cdv A0 outer s H vs Q E hr1 h => by
    have hr : Room (2 * n) (A0.deeper (envOfC "Account.keep" (defScope st_Account_keep) s.heap.objs.size (He.fAd K ("Account", some "keep")) cdv)) := hr1.mono (Nat.le_succ _)
    have hu := hr.units
    have nd := sc_Account_keep.nd
    have zo : PassesOwn (model P w) (cxOf (L2.CX P w) P w K mg base ["self", "place", "number"] "Account.keep" (defScope st_Account_keep) (He.fAd K ("Account", some "keep")) cdv A0 outer s H E).A (cxOf (L2.CX P w) P w K mg base ["self", "place", "number"] "Account.keep" (defScope st_Account_keep) (He.fAd K ("Account", some "keep")) cdv A0 outer s H E).env (cxOf (L2.CX P w) P w K mg base ["self", "place", "number"] "Account.keep" (defScope st_Account_keep) (He.fAd K ("Account", some "keep")) cdv A0 outer s H E).xe := passes_of rfl
    have zt : Takes (cxOf (L2.CX P w) P w K mg base ["self", "place", "number"] "Account.keep" (defScope st_Account_keep) (He.fAd K ("Account", some "keep")) cdv A0 outer s H E) (fun cls d _ H => E cls d H) := takes_of rfl rfl rfl rfl
    exact ⟨rdS (rc PR K (gv K) n fun cls d _ H => E cls d H) F_Account_keep.body, (pss_one (ps_if (pt_cmpR (z_ne hu) (pv 2) (pe_int) (nomark _)) (pss_one (ps_dput (lt1_of hu) (pe_fld (pv 0) rfl) (pv 1) (pv 2) rfl)) (pss_one (ps_if (pt_cmpR (z_in hu) (pv 1) (pe_fld (pv 0) rfl) (by rfl)) (pss_one (ps_expr (zm_dpop (pe_fld (pv 0) rfl) (pv 1)))) (pss_nil))))), body_ok (facts T) fn_Account_keep rfl h⟩
theorem ok_Journal_init {P : Program} {w : World} {K : PySem.W.Frag} {mg : Str → Option Value} {base : Heap} {n : Nat} (T : HF K mg) (A : AL P w K mg base n) {fd : FuncData} (F : FN_Journal_init K fd) : FnOk P w K mg base (L2.CX P w) (2 * (n + 1)) (He.fAd K ("Journal", some "__init__")) fd ["self", "rooms"] (spR PR K (n + 1) "Journal.__init__") :=
  F.ok (k := 2 * n + 1) sc_Journal_init (fun _ _ _ _ h => spR_len fn_Journal_init h) fun cdv A0 outer s H vs Q E hr1 h => by
    have hr : Room (2 * n) (A0.deeper (envOfC "Journal.__init__" (defScope st_Journal_init) s.heap.objs.size (He.fAd K ("Journal", some "__init__")) cdv)) := hr1.mono (Nat.le_succ _)
    have hu := hr.units
    have nd := sc_Journal_init.nd
    have zo : PassesOwn (model P w) (cxOf (L2.CX P w) P w K mg base ["self", "rooms"] "Journal.__init__" (defScope st_Journal_init) (He.fAd K ("Journal", some "__init__")) cdv A0 outer s H E).A (cxOf (L2.CX P w) P w K mg base ["self", "rooms"] "Journal.__init__" (defScope st_Journal_init) (He.fAd K ("Journal", some "__init__")) cdv A0 outer s H E).env (cxOf (L2.CX P w) P w K mg base ["self", "rooms"] "Journal.__init__" (defScope st_Journal_init) (He.fAd K ("Journal", some "__init__")) cdv A0 outer s H E).xe := passes_of rfl
    have zt : Takes (cxOf (L2.CX P w) P w K mg base ["self", "rooms"] "Journal.__init__" (defScope st_Journal_init) (He.fAd K ("Journal", some "__init__")) cdv A0 outer s H E) (fun cls d _ H => E cls d H) := takes_of rfl rfl rfl rfl
    exact ⟨rdS (rc PR K (gv K) n fun cls d _ H => E cls d H) F_Journal_init.body, (pss_cons (ps_fld (pv 0) (pv 1) rfl) (pss_one (ps_fld (pv 0) (pe_lst (pa_nil)) rfl))), body_ok (facts T) fn_Journal_init rfl h⟩
theorem ok_Journal_write {P : Program} {w : World} {K : PySem.W.Frag} {mg : Str → Option Value} {base : Heap} {n : Nat} (T : HF K mg) (A : AL P w K mg base n) {fd : FuncData} (F : FN_Journal_write K fd) : FnOk P w K mg base (L2.CX P w) (2 * (n + 1)) (He.fAd K ("Journal", some "write")) fd ["self", "deed"] (spR PR K (n + 1) "Journal.write") :=
  F.ok (k := 2 * n + 1) sc_Journal_write (fun _ _ _ _ h => spR_len fn_Journal_write h) fun cdv A0 outer s H vs Q E hr1 h => by
    have hr : Room (2 * n) (A0.deeper (envOfC "Journal.write" (defScope st_Journal_write) s.heap.objs.size (He.fAd K ("Journal", some "write")) cdv)) := hr1.mono (Nat.le_succ _)
    have hu := hr.units
    have nd := sc_Journal_write.nd
    have zo : PassesOwn (model P w) (cxOf (L2.CX P w) P w K mg base ["self", "deed"] "Journal.write" (defScope st_Journal_write) (He.fAd K ("Journal", some "write")) cdv A0 outer s H E).A (cxOf (L2.CX P w) P w K mg base ["self", "deed"] "Journal.write" (defScope st_Journal_write) (He.fAd K ("Journal", some "write")) cdv A0 outer s H E).env (cxOf (L2.CX P w) P w K mg base ["self", "deed"] "Journal.write" (defScope st_Journal_write) (He.fAd K ("Journal", some "write")) cdv A0 outer s H E).xe := passes_of rfl
    have zt : Takes (cxOf (L2.CX P w) P w K mg base ["self", "deed"] "Journal.write" (defScope st_Journal_write) (He.fAd K ("Journal", some "write")) cdv A0 outer s H E) (fun cls d _ H => E cls d H) := takes_of rfl rfl rfl rfl
    exact ⟨rdS (rc PR K (gv K) n fun cls d _ H => E cls d H) F_Journal_write.body, (pss_cons (ps_expr (zmeth (pv 1) (A.m_do_0) hr zpD (pa_cons (pe_fld (pv 0) rfl) (pa_nil)))) (pss_one (ps_expr (zm_append (pe_fld (pv 0) rfl) (pa_cons (pv 1) (pa_nil)))))), body_ok (facts T) fn_Journal_write rfl h⟩
theorem ok_Journal_mark {P : Program} {w : World} {K : PySem.W.Frag} {mg : Str → Option Value} {base : Heap} {n : Nat} (T : HF K mg) (A : AL P w K mg base n) {fd : FuncData} (F : FN_Journal_mark K fd) : FnOk P w K mg base (L2.CX P w) (2 * (n + 1)) (He.fAd K ("Journal", some "mark")) fd ["self"] (spR PR K (n + 1) "Journal.mark") :=
  F.ok (k := 2 * n + 1) sc_Journal_mark (fun _ _ _ _ h => spR_len fn_Journal_mark h) fun cdv A0 outer s H vs Q E hr1 h => by
    have hr : Room (2 * n) (A0.deeper (envOfC "Journal.mark" (defScope st_Journal_mark) s.heap.objs.size (He.fAd K ("Journal", some "mark")) cdv)) := hr1.mono (Nat.le_succ _)
    have hu := hr.units
    have nd := sc_Journal_mark.nd
    have zo : PassesOwn (model P w) (cxOf (L2.CX P w) P w K mg base ["self"] "Journal.mark" (defScope st_Journal_mark) (He.fAd K ("Journal", some "mark")) cdv A0 outer s H E).A (cxOf (L2.CX P w) P w K mg base ["self"] "Journal.mark" (defScope st_Journal_mark) (He.fAd K ("Journal", some "mark")) cdv A0 outer s H E).env (cxOf (L2.CX P w) P w K mg base ["self"] "Journal.mark" (defScope st_Journal_mark) (He.fAd K ("Journal", some "mark")) cdv A0 outer s H E).xe := passes_of rfl
    have zt : Takes (cxOf (L2.CX P w) P w K mg base ["self"] "Journal.mark" (defScope st_Journal_mark) (He.fAd K ("Journal", some "mark")) cdv A0 outer s H E) (fun cls d _ H => E cls d H) := takes_of rfl rfl rfl rfl
    exact ⟨rdS (rc PR K (gv K) n fun cls d _ H => E cls d H) F_Journal_mark.body, (pss_one (ps_ret (zb_len rfl T.b_len (pa_cons (pe_fld (pv 0) rfl) (pa_nil))))), body_ok (facts T) fn_Journal_mark rfl h⟩
theorem ok_Journal_back {P : Program} {w : World} {K : PySem.W.Frag} {mg : Str → Option Value} {base : Heap} {n : Nat} (T : HF K mg) (A : AL P w K mg base n) {fd : FuncData} (F : FN_Journal_back K fd) : FnOk P w K mg base (L2.CX P w) (2 * (n + 1)) (He.fAd K ("Journal", some "back")) fd ["self", "mark"] (spR PR K (n + 1) "Journal.back") :=
  F.ok (k := 2 * n + 1) sc_Journal_back (fun _ _ _ _ h => spR_len fn_Journal_back h) fun cdv A0 outer s H vs Q E hr1 h => by
    have hr : Room (2 * n) (A0.deeper (envOfC "Journal.back" (defScope st_Journal_back) s.heap.objs.size (He.fAd K ("Journal", some "back")) cdv)) := hr1.mono (Nat.le_succ _)
    have hu := hr.units
    have nd := sc_Journal_back.nd
    have zo : PassesOwn (model P w) (cxOf (L2.CX P w) P w K mg base ["self", "mark", "deed"] "Journal.back" (defScope st_Journal_back) (He.fAd K ("Journal", some "back")) cdv A0 outer s H E).A (cxOf (L2.CX P w) P w K mg base ["self", "mark", "deed"] "Journal.back" (defScope st_Journal_back) (He.fAd K ("Journal", some "back")) cdv A0 outer s H E).env (cxOf (L2.CX P w) P w K mg base ["self", "mark", "deed"] "Journal.back" (defScope st_Journal_back) (He.fAd K ("Journal", some "back")) cdv A0 outer s H E).xe := passes_of rfl
    have zt : Takes (cxOf (L2.CX P w) P w K mg base ["self", "mark", "deed"] "Journal.back" (defScope st_Journal_back) (He.fAd K ("Journal", some "back")) cdv A0 outer s H E) (fun cls d _ H => E cls d H) := takes_of rfl rfl rfl rfl
    exact ⟨rdS (rc PR K (gv K) n fun cls d _ H => E cls d H) F_Journal_back.body, (pss_one (ps_while zo (pt_cmpR (z_gt hu) (zb_len rfl T.b_len (pa_cons (pe_fld (pv 0) rfl) (pa_nil))) (pv 1) (nomark _)) (pss_cons (zset 2 nd (zm_pop (pe_fld (pv 0) rfl))) (pss_one (ps_expr (zmeth (pv 2) (A.m_undo_0) hr zpD (pa_cons (pe_fld (pv 0) rfl) (pa_nil)))))))), body_ok (facts T) fn_Journal_back rfl h⟩
theorem ok_Journal_told {P : Program} {w : World} {K : PySem.W.Frag} {mg : Str → Option Value} {base : Heap} {n : Nat} (T : HF K mg) (A : AL P w K mg base n) {fd : FuncData} (F : FN_Journal_told K fd) : FnOk P w K mg base (L2.CX P w) (2 * (n + 1)) (He.fAd K ("Journal", some "told")) fd ["self"] (spR PR K (n + 1) "Journal.told") :=
  F.ok (k := 2 * n + 1) sc_Journal_told (fun _ _ _ _ h => spR_len fn_Journal_told h) fun cdv A0 outer s H vs Q E hr1 h => by
    have hr : Room (2 * n) (A0.deeper (envOfC "Journal.told" (defScope st_Journal_told) s.heap.objs.size (He.fAd K ("Journal", some "told")) cdv)) := hr1.mono (Nat.le_succ _)
    have hu := hr.units
    have nd := sc_Journal_told.nd
    have zo : PassesOwn (model P w) (cxOf (L2.CX P w) P w K mg base ["self", "deed"] "Journal.told" (defScope st_Journal_told) (He.fAd K ("Journal", some "told")) cdv A0 outer s H E).A (cxOf (L2.CX P w) P w K mg base ["self", "deed"] "Journal.told" (defScope st_Journal_told) (He.fAd K ("Journal", some "told")) cdv A0 outer s H E).env (cxOf (L2.CX P w) P w K mg base ["self", "deed"] "Journal.told" (defScope st_Journal_told) (He.fAd K ("Journal", some "told")) cdv A0 outer s H E).xe := passes_of rfl
    have zt : Takes (cxOf (L2.CX P w) P w K mg base ["self", "deed"] "Journal.told" (defScope st_Journal_told) (He.fAd K ("Journal", some "told")) cdv A0 outer s H E) (fun cls d _ H => E cls d H) := takes_of rfl rfl rfl rfl
    exact ⟨rdS (rc PR K (gv K) n fun cls d _ H => E cls d H) F_Journal_told.body, (pss_one (ps_ret (pe_lc (own := [("deed", 1)]) rfl nd (zi_seq (pe_fld (pv 0) rfl)) (blkOk_by (own := [("deed", 1)]) (by kernel_rfl)) (fun _ _ _ _ _ => znm 1 nd) (fun _ _ _ _ _ => pts_nil) (fun _ _ _ _ _ => zmeth0 (pv 1) (A.m_told_0) hr zpL)))), body_ok (facts T) fn_Journal_told rfl h⟩
theorem ok_l_cell_at {P : Program} {w : World} {K : PySem.W.Frag} {mg : Str → Option Value} {base : Heap} {n : Nat} (T : HF K mg) (A : AL P w K mg base n) {fd : FuncData} (F : FN_l_cell_at K fd) : FnOk P w K mg base (L2.CX P w) (2 * (n + 1)) (He.fAd K ("_law_cell_at", none)) fd ["_law_script", "_law_k"] (spR PR K (n + 1) "_law_cell_at") :=
  F.ok (k := 2 * n + 1) sc_l_cell_at (fun _ _ _ _ h => spR_len fn_l_cell_at h) fun cdv A0 outer s H vs Q E hr1 h => by
    have hr : Room (2 * n) (A0.deeper (envOfC "_law_cell_at" (defScope st_l_cell_at) s.heap.objs.size (He.fAd K ("_law_cell_at", none)) cdv)) := hr1.mono (Nat.le_succ _)
    have hu := hr.units
    have nd := sc_l_cell_at.nd
    have zo : PassesOwn (model P w) (cxOf (L2.CX P w) P w K mg base ["_law_script", "_law_k"] "_law_cell_at" (defScope st_l_cell_at) (He.fAd K ("_law_cell_at", none)) cdv A0 outer s H E).A (cxOf (L2.CX P w) P w K mg base ["_law_script", "_law_k"] "_law_cell_at" (defScope st_l_cell_at) (He.fAd K ("_law_cell_at", none)) cdv A0 outer s H E).env (cxOf (L2.CX P w) P w K mg base ["_law_script", "_law_k"] "_law_cell_at" (defScope st_l_cell_at) (He.fAd K ("_law_cell_at", none)) cdv A0 outer s H E).xe := passes_of rfl
    have zt : Takes (cxOf (L2.CX P w) P w K mg base ["_law_script", "_law_k"] "_law_cell_at" (defScope st_l_cell_at) (He.fAd K ("_law_cell_at", none)) cdv A0 outer s H E) (fun cls d _ H => E cls d H) := takes_of rfl rfl rfl rfl
    exact ⟨rdS (rc PR K (gv K) n fun cls d _ H => E cls d H) F_l_cell_at.body, (pss_cons (ps_if (pt_cmpR (z_lt hu) (pv 1) (zb_len rfl T.b_len (pa_cons (pv 0) (pa_nil))) (nomark _)) (pss_one (ps_ret (pe_ix ix_seq (pv 0) (pv 1) (fun _ _ => rfl)))) (pss_nil)) (pss_one (ps_ret (pe_int)))), body_ok (facts T) fn_l_cell_at rfl h⟩
theorem ok_l_alike {P : Program} {w : World} {K : PySem.W.Frag} {mg : Str → Option Value} {base : Heap} {n : Nat} (T : HF K mg) (A : AL P w K mg base n) {fd : FuncData} (F : FN_l_alike K fd) : FnOk P w K mg base (L2.CX P w) (2 * (n + 1)) (He.fAd K ("_law_alike", none)) fd ["_law_found", "_law_due"] (spR PR K (n + 1) "_law_alike") :=
  F.ok (k := 2 * n + 1) sc_l_alike (fun _ _ _ _ h => spR_len fn_l_alike h) fun cdv A0 outer s H vs Q E hr1 h => by
    have hr : Room (2 * n) (A0.deeper (envOfC "_law_alike" (defScope st_l_alike) s.heap.objs.size (He.fAd K ("_law_alike", none)) cdv)) := hr1.mono (Nat.le_succ _)
    have hu := hr.units
    have nd := sc_l_alike.nd
    have zo : PassesOwn (model P w) (cxOf (L2.CX P w) P w K mg base ["_law_found", "_law_due", "_law_k"] "_law_alike" (defScope st_l_alike) (He.fAd K ("_law_alike", none)) cdv A0 outer s H E).A (cxOf (L2.CX P w) P w K mg base ["_law_found", "_law_due", "_law_k"] "_law_alike" (defScope st_l_alike) (He.fAd K ("_law_alike", none)) cdv A0 outer s H E).env (cxOf (L2.CX P w) P w K mg base ["_law_found", "_law_due", "_law_k"] "_law_alike" (defScope st_l_alike) (He.fAd K ("_law_alike", none)) cdv A0 outer s H E).xe := passes_of rfl
    have zt : Takes (cxOf (L2.CX P w) P w K mg base ["_law_found", "_law_due", "_law_k"] "_law_alike" (defScope st_l_alike) (He.fAd K ("_law_alike", none)) cdv A0 outer s H E) (fun cls d _ H => E cls d H) := takes_of rfl rfl rfl rfl
    exact ⟨rdS (rc PR K (gv K) n fun cls d _ H => E cls d H) F_l_alike.body, (pss_cons (ps_if (ztru (zisi .int rfl rfl T.b_isinstance rfl T.b_int (pv 1))) (pss_one (ps_ret (pe_and (zisi .int rfl rfl T.b_isinstance rfl T.b_int (pv 0)) (pe_and (pe_not (zisi .bool rfl rfl T.b_isinstance rfl T.b_bool (pv 0))) (pe_one (pe_cmpR (z_eq hu) (pv 0) (pv 1) (nomark _))))))) (pss_nil)) (pss_cons (ps_if (ztru (zisi .str rfl rfl T.b_isinstance rfl T.b_str (pv 1))) (pss_one (ps_ret (pe_and (zisi .str rfl rfl T.b_isinstance rfl T.b_str (pv 0)) (pe_one (pe_cmpR (z_eq hu) (pv 0) (pv 1) (nomark _)))))) (pss_nil)) (pss_cons (ps_if (ztru (zisi .tuple rfl rfl T.b_isinstance rfl T.b_tuple (pv 1))) (pss_one (ps_if (pt_not (ztru (zisi .tuple rfl rfl T.b_isinstance rfl T.b_tuple (pv 0)))) (pss_one (ps_ret (pe_bl))) (pss_nil))) (pss_one (ps_if (pt_not (ztru (zisi .list rfl rfl T.b_isinstance rfl T.b_list (pv 0)))) (pss_one (ps_ret (pe_bl))) (pss_nil)))) (pss_cons (ps_if (pt_cmpR (z_ne hu) (zb_len rfl T.b_len (pa_cons (pv 0) (pa_nil))) (zb_len rfl T.b_len (pa_cons (pv 1) (pa_nil))) (nomark _)) (pss_one (ps_ret (pe_bl))) (pss_nil)) (pss_cons (ps_for zo rfl (zi_range1 rfl T.b_range (pa_cons (zb_len rfl T.b_len (pa_cons (pv 1) (pa_nil))) (pa_nil))) (znm 2 nd) (pss_one (ps_if (pt_not (ztru (zcall (A.l_alike) hr rfl T.g__law_alike zpD (pa_cons (pe_ix ix_seq (pv 0) (pv 2) (fun _ _ => rfl)) (pa_cons (pe_ix ix_seq (pv 1) (pv 2) (fun _ _ => rfl)) (pa_nil)))))) (pss_one (ps_ret (pe_bl))) (pss_nil)))) (pss_one (ps_ret (pe_bl)))))))), body_ok (facts T) fn_l_alike rfl h⟩
theorem ok_l_program {P : Program} {w : World} {K : PySem.W.Frag} {mg : Str → Option Value} {base : Heap} {n : Nat} (T : HF K mg) (A : AL P w K mg base n) {fd : FuncData} (F : FN_l_program K fd) : FnOk P w K mg base (L2.CX P w) (2 * (n + 1)) (He.fAd K ("_law_program", none)) fd ["_law_over", "_law_number", "_law_pairs", "_law_last"] (spR PR K (n + 1) "_law_program") :=
  F.ok (k := 2 * n + 1) sc_l_program (fun _ _ _ _ h => spR_len fn_l_program h) fun cdv A0 outer s H vs Q E hr1 h => by
    have hr : Room (2 * n) (A0.deeper (envOfC "_law_program" (defScope st_l_program) s.heap.objs.size (He.fAd K ("_law_program", none)) cdv)) := hr1.mono (Nat.le_succ _)
    have hu := hr.units
    have nd := sc_l_program.nd
    have zo : PassesOwn (model P w) (cxOf (L2.CX P w) P w K mg base ["_law_over", "_law_number", "_law_pairs", "_law_last", "_law_rows", "_law_k", "_law_back"] "_law_program" (defScope st_l_program) (He.fAd K ("_law_program", none)) cdv A0 outer s H E).A (cxOf (L2.CX P w) P w K mg base ["_law_over", "_law_number", "_law_pairs", "_law_last", "_law_rows", "_law_k", "_law_back"] "_law_program" (defScope st_l_program) (He.fAd K ("_law_program", none)) cdv A0 outer s H E).env (cxOf (L2.CX P w) P w K mg base ["_law_over", "_law_number", "_law_pairs", "_law_last", "_law_rows", "_law_k", "_law_back"] "_law_program" (defScope st_l_program) (He.fAd K ("_law_program", none)) cdv A0 outer s H E).xe := passes_of rfl
    have zt : Takes (cxOf (L2.CX P w) P w K mg base ["_law_over", "_law_number", "_law_pairs", "_law_last", "_law_rows", "_law_k", "_law_back"] "_law_program" (defScope st_l_program) (He.fAd K ("_law_program", none)) cdv A0 outer s H E) (fun cls d _ H => E cls d H) := takes_of rfl rfl rfl rfl
    exact ⟨rdS (rc PR K (gv K) n fun cls d _ H => E cls d H) F_l_program.body, (pss_cons (zset 4 nd (pe_lst (pa_nil))) (pss_cons (ps_for zo rfl (zi_range1 rfl T.b_range (pa_cons (pv 0) (pa_nil))) (znm 5 nd) (pss_cons (ps_expr (zm_append (pv 4) (pa_cons (pe_tup (pa_cons (pe_str) (pa_cons (pe_op z_add (zb_len rfl T.b_len (pa_cons (pv 4) (pa_nil))) (pe_int)) (pa_nil)))) (pa_nil)))) (pss_one (ps_expr (zm_append (pv 4) (pa_cons (pe_tup (pa_cons (pe_str) (pa_nil))) (pa_nil))))))) (pss_cons (ps_expr (zm_append (pv 4) (pa_cons (pe_tup (pa_cons (pe_str) (pa_cons (pv 1) (pa_nil)))) (pa_nil)))) (pss_cons (zset 6 nd (zb_len rfl T.b_len (pa_cons (pv 4) (pa_nil)))) (pss_cons (ps_for zo rfl (zi_range1 rfl T.b_range (pa_cons (pv 2) (pa_nil))) (znm 5 nd) (pss_cons (ps_expr (zm_append (pv 4) (pa_cons (pe_tup (pa_cons (pe_str) (pa_cons (pe_op z_fdiv (pv 1) (pe_op z_add (pv 5) (pe_int))) (pa_nil)))) (pa_nil)))) (pss_one (ps_expr (zm_append (pv 4) (pa_cons (pe_tup (pa_cons (pe_str) (pa_nil))) (pa_nil))))))) (pss_cons (zset 4 nd (pe_op z_add (pv 4) (pe_lst (pa_cons (pe_tup (pa_cons (pe_str) (pa_cons (pe_int) (pa_nil)))) (pa_cons (pe_tup (pa_cons (pe_str) (pa_nil))) (pa_cons (pe_tup (pa_cons (pe_str) (pa_cons (pe_int) (pa_nil)))) (pa_cons (pe_tup (pa_cons (pe_str) (pa_cons (pv 6) (pa_nil)))) (pa_nil)))))))) (pss_cons (ps_if (pt_cmpR (z_lt hu) (pv 3) (pe_int) (nomark _)) (pss_one (ps_ret (pe_op z_add (pv 4) (pe_lst (pa_cons (pe_tup (pa_cons (pe_str) (pa_nil))) (pa_nil)))))) (pss_nil)) (pss_one (ps_ret (pe_op z_add (pv 4) (pe_lst (pa_cons (pe_tup (pa_cons (pe_str) (pa_cons (pv 3) (pa_nil)))) (pa_cons (pe_tup (pa_cons (pe_str) (pa_cons (pe_op z_add (zb_len rfl T.b_len (pa_cons (pv 4) (pa_nil))) (pe_int)) (pa_nil)))) (pa_cons (pe_tup (pa_cons (pe_str) (pa_nil))) (pa_nil))))))))))))))), body_ok (facts T) fn_l_program rfl h⟩
theorem ok_l_gone {P : Program} {w : World} {K : PySem.W.Frag} {mg : Str → Option Value} {base : Heap} {n : Nat} (T : HF K mg) (A : AL P w K mg base n) {fd : FuncData} (F : FN_l_gone K fd) : FnOk P w K mg base (L2.CX P w) (2 * (n + 1)) (He.fAd K ("_law_gone", none)) fd ["_law_over", "_law_number", "_law_pairs", "_law_most"] (spR PR K (n + 1) "_law_gone") :=
  F.ok (k := 2 * n + 1) sc_l_gone (fun _ _ _ _ h => spR_len fn_l_gone h) fun cdv A0 outer s H vs Q E hr1 h => by
    have hr : Room (2 * n) (A0.deeper (envOfC "_law_gone" (defScope st_l_gone) s.heap.objs.size (He.fAd K ("_law_gone", none)) cdv)) := hr1.mono (Nat.le_succ _)
    have hu := hr.units
    have nd := sc_l_gone.nd
    have zo : PassesOwn (model P w) (cxOf (L2.CX P w) P w K mg base ["_law_over", "_law_number", "_law_pairs", "_law_most", "_law_gone_here", "_law_left", "_law_turn", "_law_at", "_law_k"] "_law_gone" (defScope st_l_gone) (He.fAd K ("_law_gone", none)) cdv A0 outer s H E).A (cxOf (L2.CX P w) P w K mg base ["_law_over", "_law_number", "_law_pairs", "_law_most", "_law_gone_here", "_law_left", "_law_turn", "_law_at", "_law_k"] "_law_gone" (defScope st_l_gone) (He.fAd K ("_law_gone", none)) cdv A0 outer s H E).env (cxOf (L2.CX P w) P w K mg base ["_law_over", "_law_number", "_law_pairs", "_law_most", "_law_gone_here", "_law_left", "_law_turn", "_law_at", "_law_k"] "_law_gone" (defScope st_l_gone) (He.fAd K ("_law_gone", none)) cdv A0 outer s H E).xe := passes_of rfl
    have zt : Takes (cxOf (L2.CX P w) P w K mg base ["_law_over", "_law_number", "_law_pairs", "_law_most", "_law_gone_here", "_law_left", "_law_turn", "_law_at", "_law_k"] "_law_gone" (defScope st_l_gone) (He.fAd K ("_law_gone", none)) cdv A0 outer s H E) (fun cls d _ H => E cls d H) := takes_of rfl rfl rfl rfl
    exact ⟨rdS (rc PR K (gv K) n fun cls d _ H => E cls d H) F_l_gone.body, (pss_cons (zset 4 nd (pe_op z_add (pe_lc (own := [("_law_k", 8)]) rfl nd (zi_range1 rfl T.b_range (pa_cons (pv 0) (pa_nil))) (blkOk_by (own := [("_law_k", 8)]) (by kernel_rfl)) (fun _ _ _ _ _ => znm 8 nd) (fun _ _ _ _ _ => pts_nil) (fun _ _ _ _ _ => pe_op z_mul (pe_int) (pv 8))) (pe_lst (pa_cons (pe_op z_mul (pe_int) (pv 0)) (pa_nil))))) (pss_cons (zset 5 nd (pv 1)) (pss_cons (ps_setLc (i := 6) (own := [("_law_k", 8)]) rfl nd rfl rfl (sw_true rfl rfl rfl (by decide +kernel)) (zi_range1 rfl T.b_range (pa_cons (pe_op z_add (pe_op z_mul (pe_int) (pv 2)) (pe_int)) (pa_nil))) (blkOk_by (own := [("_law_k", 8)]) (by kernel_rfl)) (fun _ _ _ _ _ => znm 8 nd) (fun _ _ _ _ _ => pts_nil) (fun _ _ _ _ _ => pe_op z_add (pe_op z_add (pe_op z_mul (pe_int) (pv 0)) (pe_int)) (pv 8))) (pss_cons (ps_while zo (pt_cmpR (z_lt hu) (zb_len rfl T.b_len (pa_cons (pv 4) (pa_nil))) (pv 3) (nomark _)) (pss_cons (ps_for zo rfl (zi_seq (pv 6)) (znm 7 nd) (pss_one (ps_expr (zm_append (pv 4) (pa_cons (pv 7) (pa_nil)))))) (pss_cons (zset 5 nd (pe_op z_sub (pv 5) (pe_int))) (pss_one (ps_if (pt_cmpR (z_eq hu) (pv 5) (pe_int) (nomark _)) (pss_one (ps_ret (pv 4))) (pss_nil)))))) (pss_one (ps_ret (pv 4))))))), body_ok (facts T) fn_l_gone rfl h⟩
theorem ok_law {P : Program} {w : World} {K : PySem.W.Frag} {mg : Str → Option Value} {base : Heap} {n : Nat} (T : HF K mg) (A : AL P w K mg base n) {fd : FuncData} (F : FN_law K fd) : FnOk P w K mg base (L2.CX P w) (2 * (n + 1)) (He.fAd K ("law", none)) fd ["_law_script"] (spR PR K (n + 1) "law") :=
  F.ok (k := 2 * n + 1) sc_law (fun _ _ _ _ h => spR_len fn_law h) fun cdv A0 outer s H vs Q E hr1 h => by
    have hr : Room (2 * n) (A0.deeper (envOfC "law" (defScope st_law) s.heap.objs.size (He.fAd K ("law", none)) cdv)) := hr1.mono (Nat.le_succ _)
    have hu := hr.units
    have nd := sc_law.nd
    have zo : PassesOwn (model P w) (cxOf (L2.CX P w) P w K mg base ["_law_script", "_law_over", "_law_pairs", "_law_number", "_law_given", "_law_last", "_law_rows", "_law_gone_here", "_law_behind", "_law_end", "_law_rooms", "_law_found"] "law" (defScope st_law) (He.fAd K ("law", none)) cdv A0 outer s H E).A (cxOf (L2.CX P w) P w K mg base ["_law_script", "_law_over", "_law_pairs", "_law_number", "_law_given", "_law_last", "_law_rows", "_law_gone_here", "_law_behind", "_law_end", "_law_rooms", "_law_found"] "law" (defScope st_law) (He.fAd K ("law", none)) cdv A0 outer s H E).env (cxOf (L2.CX P w) P w K mg base ["_law_script", "_law_over", "_law_pairs", "_law_number", "_law_given", "_law_last", "_law_rows", "_law_gone_here", "_law_behind", "_law_end", "_law_rooms", "_law_found"] "law" (defScope st_law) (He.fAd K ("law", none)) cdv A0 outer s H E).xe := passes_of rfl
    have zt : Takes (cxOf (L2.CX P w) P w K mg base ["_law_script", "_law_over", "_law_pairs", "_law_number", "_law_given", "_law_last", "_law_rows", "_law_gone_here", "_law_behind", "_law_end", "_law_rooms", "_law_found"] "law" (defScope st_law) (He.fAd K ("law", none)) cdv A0 outer s H E) (fun cls d _ H => E cls d H) := takes_of rfl rfl rfl rfl
    exact ⟨rdS (rc PR K (gv K) n fun cls d _ H => E cls d H) F_law.body, (pss_cons (zset 1 nd (pe_op z_mod (zcall (A.l_cell_at) hr rfl T.g__law_cell_at zpD (pa_cons (pv 0) (pa_cons (pe_int) (pa_nil)))) (pe_int))) (pss_cons (zset 2 nd (pe_op z_mod (pe_op z_fdiv (zcall (A.l_cell_at) hr rfl T.g__law_cell_at zpD (pa_cons (pv 0) (pa_cons (pe_int) (pa_nil)))) (pe_int)) (pe_int))) (pss_cons (zset 3 nd (pe_op z_mod (pe_op z_fdiv (zcall (A.l_cell_at) hr rfl T.g__law_cell_at zpD (pa_cons (pv 0) (pa_cons (pe_int) (pa_nil)))) (pe_int)) (pe_op z_pow (pe_int) (pe_int)))) (pss_cons (ps_if (pt_cmpR (z_eq hu) (pe_op z_mod (zcall (A.l_cell_at) hr rfl T.g__law_cell_at zpD (pa_cons (pv 0) (pa_cons (pe_int) (pa_nil)))) (pe_int)) (pe_int) (nomark _)) (pss_one (zset 3 nd (pe_op z_mod (pv 3) (pe_int)))) (pss_nil)) (pss_cons (zset 4 nd (pe_op z_mod (pe_op z_fdiv (zcall (A.l_cell_at) hr rfl T.g__law_cell_at zpD (pa_cons (pv 0) (pa_cons (pe_int) (pa_nil)))) (pe_int)) (pe_int))) (pss_cons (ps_if (pt_cmpR (z_eq hu) (pe_op z_mod (zcall (A.l_cell_at) hr rfl T.g__law_cell_at zpD (pa_cons (pv 0) (pa_cons (pe_int) (pa_nil)))) (pe_int)) (pe_int) (nomark _)) (pss_one (zset 4 nd (pe_op z_add (pe_int) (pe_op z_mod (pe_op z_fdiv (zcall (A.l_cell_at) hr rfl T.g__law_cell_at zpD (pa_cons (pv 0) (pa_cons (pe_int) (pa_nil)))) (pe_int)) (pe_int))))) (pss_nil)) (pss_cons (zset 5 nd (pe_op z_mod (pe_op z_fdiv (zcall (A.l_cell_at) hr rfl T.g__law_cell_at zpD (pa_cons (pv 0) (pa_cons (pe_int) (pa_nil)))) (pe_int)) (pe_op z_pow (pe_int) (pe_int)))) (pss_cons (ps_if (pt_cmpR (z_eq hu) (pe_op z_mod (zcall (A.l_cell_at) hr rfl T.g__law_cell_at zpD (pa_cons (pv 0) (pa_cons (pe_int) (pa_nil)))) (pe_int)) (pe_int) (nomark _)) (pss_one (zset 5 nd (pe_un un_neg (pe_int)))) (pss_nil)) (pss_cons (ps_if (pt_cmpR (z_eq hu) (pe_op z_mod (zcall (A.l_cell_at) hr rfl T.g__law_cell_at zpD (pa_cons (pv 0) (pa_cons (pe_int) (pa_nil)))) (pe_int)) (pe_int) (nomark _)) (pss_one (zset 5 nd (pe_int))) (pss_nil)) (pss_cons (zset 6 nd (zcall (A.l_program) hr rfl T.g__law_program zpD (pa_cons (pv 1) (pa_cons (pv 3) (pa_cons (pv 2) (pa_cons (pv 5) (pa_nil))))))) (pss_cons (zset 7 nd (zcall (A.l_gone) hr rfl T.g__law_gone zpD (pa_cons (pv 1) (pa_cons (pv 3) (pa_cons (pv 2) (pa_cons (pe_op z_add (pv 4) (pe_int)) (pa_nil))))))) (pss_cons (zset 8 nd (pe_op z_add (pe_op z_add (pe_op z_mul (pe_int) (pv 1)) (pe_op z_mul (pe_int) (pv 2))) (pe_int))) (pss_cons (ps_if (pt_cmpR (z_lt hu) (pv 5) (pe_int) (nomark _)) (pss_one (zset 7 nd (pe_op z_add (pv 7) (pe_lst (pa_cons (pv 8) (pa_nil)))))) (pss_cons (zset 7 nd (pe_op z_add (pv 7) (pe_lst (pa_cons (pv 8) (pa_cons (pe_op z_add (pv 8) (pe_int)) (pa_nil)))))) (pss_one (ps_if (pt_cmpR (z_eq hu) (pv 5) (pe_int) (nomark _)) (pss_one (zset 7 nd (pe_op z_add (pv 7) (pe_lst (pa_cons (pe_op z_add (pv 8) (pe_int)) (pa_nil)))))) (pss_nil))))) (pss_cons (zset 9 nd (pe_str)) (pss_cons (ps_if (pt_cmpR (z_eq hu) (pv 5) (pe_int) (nomark _)) (pss_one (zset 9 nd (pe_str))) (pss_nil)) (pss_cons (ps_if (pt_cmpR (z_gt hu) (zb_len rfl T.b_len (pa_cons (pv 7) (pa_nil))) (pv 4) (nomark _)) (pss_cons (zset 7 nd (pe_slice z_slice (pv 7) po_none (po_some (pv 4)))) (pss_one (zset 9 nd (pe_str)))) (pss_nil)) (pss_cons (zset 10 nd (pe_op z_mul (pe_lst (pa_cons (pe_non) (pa_nil))) (pe_int))) (pss_cons (ps_asg (zmake A.mk_Account hr1 rfl T.g_Account zpD (pa_cons (pe_int) (pa_cons (pe_int) (pa_cons (pe_lst (pa_nil)) (pa_nil))))) (pg_sub (pv 10) (pe_int) set_list)) (pss_cons (ps_asg (zmake A.mk_Account hr1 rfl T.g_Account zpD (pa_cons (pe_int) (pa_cons (pe_int) (pa_cons (pv 6) (pa_nil))))) (pg_sub (pv 10) (pe_int) set_list)) (pss_cons (zset 11 nd (zcall (A.enter) hr rfl T.g_enter zpD (pa_cons (pv 10) (pa_cons (zmake A.mk_Journal hr1 rfl T.g_Journal zpD (pa_cons (pv 10) (pa_nil))) (pa_cons (pe_int) (pa_cons (pe_int) (pa_cons (pe_int) (pa_cons (pe_int) (pa_cons (pv 4) (pa_nil)))))))))) (pss_one (ps_ret (zcall (A.l_alike) hr rfl T.g__law_alike zpD (pa_cons (pv 11) (pa_cons (pe_tup (pa_cons (pe_str) (pa_cons (pe_int) (pa_cons (pe_int) (pa_cons (pe_int) (pa_cons (pe_int) (pa_cons (pe_int) (pa_cons (pv 4) (pa_cons (pv 9) (pa_cons (pe_int) (pa_cons (zb_len rfl T.b_len (pa_cons (pv 7) (pa_nil))) (pa_cons (pv 7) (pa_nil))))))))))))) (pa_nil)))))))))))))))))))))))))), body_ok (facts T) fn_law rfl h⟩
theorem ok_Note_do {P : Program} {w : World} {K : PySem.W.Frag} {mg : Str → Option Value} {base : Heap} {n : Nat} (T : HF K mg) (A : AL P w K mg base n) {fd : FuncData} (F : FN_Note_do K fd) : FnOk P w K mg base (L2.CX P w) (2 * (n + 1)) (He.fAd K ("Note", some "do")) fd ["self", "rooms"] (spR PR K (n + 1) "Note.do") :=
  F.ok (k := 2 * n + 1) sc_Note_do (fun _ _ _ _ h => spR_len fn_Note_do h) fun cdv A0 outer s H vs Q E hr1 h => by
    have hr : Room (2 * n) (A0.deeper (envOfC "Deed.do" (defScope st_Note_do) s.heap.objs.size (He.fAd K ("Note", some "do")) cdv)) := hr1.mono (Nat.le_succ _)
    have hu := hr.units
    have nd := sc_Note_do.nd
    have zo : PassesOwn (model P w) (cxOf (L2.CX P w) P w K mg base ["self", "rooms"] "Deed.do" (defScope st_Note_do) (He.fAd K ("Note", some "do")) cdv A0 outer s H E).A (cxOf (L2.CX P w) P w K mg base ["self", "rooms"] "Deed.do" (defScope st_Note_do) (He.fAd K ("Note", some "do")) cdv A0 outer s H E).env (cxOf (L2.CX P w) P w K mg base ["self", "rooms"] "Deed.do" (defScope st_Note_do) (He.fAd K ("Note", some "do")) cdv A0 outer s H E).xe := passes_of rfl
    have zt : Takes (cxOf (L2.CX P w) P w K mg base ["self", "rooms"] "Deed.do" (defScope st_Note_do) (He.fAd K ("Note", some "do")) cdv A0 outer s H E) (fun cls d _ H => E cls d H) := takes_of rfl rfl rfl rfl
    exact ⟨rdS (rc PR K (gv K) n fun cls d _ H => E cls d H) F_Note_do.body, (pss_one (ps_ret (pe_non))), body_ok (facts T) fn_Note_do rfl h⟩
theorem ok_Note_undo {P : Program} {w : World} {K : PySem.W.Frag} {mg : Str → Option Value} {base : Heap} {n : Nat} (T : HF K mg) (A : AL P w K mg base n) {fd : FuncData} (F : FN_Note_undo K fd) : FnOk P w K mg base (L2.CX P w) (2 * (n + 1)) (He.fAd K ("Note", some "undo")) fd ["self", "rooms"] (spR PR K (n + 1) "Note.undo") :=
  F.ok (k := 2 * n + 1) sc_Note_undo (fun _ _ _ _ h => spR_len fn_Note_undo h) fun cdv A0 outer s H vs Q E hr1 h => by
    have hr : Room (2 * n) (A0.deeper (envOfC "Deed.undo" (defScope st_Note_undo) s.heap.objs.size (He.fAd K ("Note", some "undo")) cdv)) := hr1.mono (Nat.le_succ _)
    have hu := hr.units
    have nd := sc_Note_undo.nd
    have zo : PassesOwn (model P w) (cxOf (L2.CX P w) P w K mg base ["self", "rooms"] "Deed.undo" (defScope st_Note_undo) (He.fAd K ("Note", some "undo")) cdv A0 outer s H E).A (cxOf (L2.CX P w) P w K mg base ["self", "rooms"] "Deed.undo" (defScope st_Note_undo) (He.fAd K ("Note", some "undo")) cdv A0 outer s H E).env (cxOf (L2.CX P w) P w K mg base ["self", "rooms"] "Deed.undo" (defScope st_Note_undo) (He.fAd K ("Note", some "undo")) cdv A0 outer s H E).xe := passes_of rfl
    have zt : Takes (cxOf (L2.CX P w) P w K mg base ["self", "rooms"] "Deed.undo" (defScope st_Note_undo) (He.fAd K ("Note", some "undo")) cdv A0 outer s H E) (fun cls d _ H => E cls d H) := takes_of rfl rfl rfl rfl
    exact ⟨rdS (rc PR K (gv K) n fun cls d _ H => E cls d H) F_Note_undo.body, (pss_one (ps_ret (pe_non))), body_ok (facts T) fn_Note_undo rfl h⟩
theorem mtc_account {cn f : String} (h : PR.mt cn "account" = some f) : (cn = "Machine" ∧ f = "Machine.account") := by
  simp only [PR, String.reduceEq, reduceIte] at h
  by_cases z : cn = "Machine"
  · rw [if_pos z] at h; cases h; exact ⟨z, rfl⟩
  rw [if_neg z] at h
  cases h
theorem mtc_back {cn f : String} (h : PR.mt cn "back" = some f) : (cn = "Journal" ∧ f = "Journal.back") := by
  simp only [PR, String.reduceEq, reduceIte] at h
  by_cases z : cn = "Journal"
  · rw [if_pos z] at h; cases h; exact ⟨z, rfl⟩
  rw [if_neg z] at h
  cases h
theorem mtc_begin {cn f : String} (h : PR.mt cn "begin" = some f) : (cn = "Machine" ∧ f = "Machine.begin") := by
  simp only [PR, String.reduceEq, reduceIte] at h
  by_cases z : cn = "Machine"
  · rw [if_pos z] at h; cases h; exact ⟨z, rfl⟩
  rw [if_neg z] at h
  cases h
theorem mtc_cost {cn f : String} (h : PR.mt cn "cost" = some f) : (cn = "Machine" ∧ f = "Machine.cost") := by
  simp only [PR, String.reduceEq, reduceIte] at h
  by_cases z : cn = "Machine"
  · rw [if_pos z] at h; cases h; exact ⟨z, rfl⟩
  rw [if_neg z] at h
  cases h
theorem mtc_do {cn f : String} (h : PR.mt cn "do" = some f) : (cn = "Deed" ∧ f = "Deed.do") ∨ (cn = "Save" ∧ f = "Save.do") ∨ (cn = "Move" ∧ f = "Move.do") ∨ (cn = "Note" ∧ f = "Note.do") := by
  simp only [PR, String.reduceEq, reduceIte] at h
  by_cases z : cn = "Deed"
  · rw [if_pos z] at h; cases h; exact .inl ⟨z, rfl⟩
  rw [if_neg z] at h
  by_cases z : cn = "Save"
  · rw [if_pos z] at h; cases h; exact .inr (.inl ⟨z, rfl⟩)
  rw [if_neg z] at h
  by_cases z : cn = "Move"
  · rw [if_pos z] at h; cases h; exact .inr (.inr (.inl ⟨z, rfl⟩))
  rw [if_neg z] at h
  by_cases z : cn = "Note"
  · rw [if_pos z] at h; cases h; exact .inr (.inr (.inr (⟨z, rfl⟩)))
  rw [if_neg z] at h
  cases h
theorem mtc_done {cn f : String} (h : PR.mt cn "done" = some f) : (cn = "Machine" ∧ f = "Machine.done") := by
  simp only [PR, String.reduceEq, reduceIte] at h
  by_cases z : cn = "Machine"
  · rw [if_pos z] at h; cases h; exact ⟨z, rfl⟩
  rw [if_neg z] at h
  cases h
theorem mtc_fault {cn f : String} (h : PR.mt cn "fault" = some f) : (cn = "Machine" ∧ f = "Machine.fault") := by
  simp only [PR, String.reduceEq, reduceIte] at h
  by_cases z : cn = "Machine"
  · rw [if_pos z] at h; cases h; exact ⟨z, rfl⟩
  rw [if_neg z] at h
  cases h
theorem mtc_finish {cn f : String} (h : PR.mt cn "finish" = some f) : (cn = "Frame" ∧ f = "Frame.finish") := by
  simp only [PR, String.reduceEq, reduceIte] at h
  by_cases z : cn = "Frame"
  · rw [if_pos z] at h; cases h; exact ⟨z, rfl⟩
  rw [if_neg z] at h
  cases h
theorem mtc_go {cn f : String} (h : PR.mt cn "go" = some f) : (cn = "Machine" ∧ f = "Machine.go") := by
  simp only [PR, String.reduceEq, reduceIte] at h
  by_cases z : cn = "Machine"
  · rw [if_pos z] at h; cases h; exact ⟨z, rfl⟩
  rw [if_neg z] at h
  cases h
theorem mtc_inner_call {cn f : String} (h : PR.mt cn "inner_call" = some f) : (cn = "Machine" ∧ f = "Machine.inner_call") := by
  simp only [PR, String.reduceEq, reduceIte] at h
  by_cases z : cn = "Machine"
  · rw [if_pos z] at h; cases h; exact ⟨z, rfl⟩
  rw [if_neg z] at h
  cases h
theorem mtc_is_full {cn f : String} (h : PR.mt cn "is_full" = some f) : (cn = "Frame" ∧ f = "Frame.is_full") := by
  simp only [PR, String.reduceEq, reduceIte] at h
  by_cases z : cn = "Frame"
  · rw [if_pos z] at h; cases h; exact ⟨z, rfl⟩
  rw [if_neg z] at h
  cases h
theorem mtc_is_short {cn f : String} (h : PR.mt cn "is_short" = some f) : (cn = "Frame" ∧ f = "Frame.is_short") := by
  simp only [PR, String.reduceEq, reduceIte] at h
  by_cases z : cn = "Frame"
  · rw [if_pos z] at h; cases h; exact ⟨z, rfl⟩
  rw [if_neg z] at h
  cases h
theorem mtc_keep {cn f : String} (h : PR.mt cn "keep" = some f) : (cn = "Account" ∧ f = "Account.keep") := by
  simp only [PR, String.reduceEq, reduceIte] at h
  by_cases z : cn = "Account"
  · rw [if_pos z] at h; cases h; exact ⟨z, rfl⟩
  rw [if_neg z] at h
  cases h
theorem mtc_lead {cn f : String} (h : PR.mt cn "lead" = some f) : (cn = "Frame" ∧ f = "Frame.lead") := by
  simp only [PR, String.reduceEq, reduceIte] at h
  by_cases z : cn = "Frame"
  · rw [if_pos z] at h; cases h; exact ⟨z, rfl⟩
  rw [if_neg z] at h
  cases h
theorem mtc_loaded {cn f : String} (h : PR.mt cn "loaded" = some f) : (cn = "Account" ∧ f = "Account.loaded") := by
  simp only [PR, String.reduceEq, reduceIte] at h
  by_cases z : cn = "Account"
  · rw [if_pos z] at h; cases h; exact ⟨z, rfl⟩
  rw [if_neg z] at h
  cases h
theorem mtc_mark {cn f : String} (h : PR.mt cn "mark" = some f) : (cn = "Journal" ∧ f = "Journal.mark") := by
  simp only [PR, String.reduceEq, reduceIte] at h
  by_cases z : cn = "Journal"
  · rw [if_pos z] at h; cases h; exact ⟨z, rfl⟩
  rw [if_neg z] at h
  cases h
theorem mtc_move_about {cn f : String} (h : PR.mt cn "move_about" = some f) : (cn = "Frame" ∧ f = "Frame.move_about") := by
  simp only [PR, String.reduceEq, reduceIte] at h
  by_cases z : cn = "Frame"
  · rw [if_pos z] at h; cases h; exact ⟨z, rfl⟩
  rw [if_neg z] at h
  cases h
theorem mtc_place {cn f : String} (h : PR.mt cn "place" = some f) : (cn = "Frame" ∧ f = "Frame.place") := by
  simp only [PR, String.reduceEq, reduceIte] at h
  by_cases z : cn = "Frame"
  · rw [if_pos z] at h; cases h; exact ⟨z, rfl⟩
  rw [if_neg z] at h
  cases h
theorem mtc_plain_row {cn f : String} (h : PR.mt cn "plain_row" = some f) : (cn = "Frame" ∧ f = "Frame.plain_row") := by
  simp only [PR, String.reduceEq, reduceIte] at h
  by_cases z : cn = "Frame"
  · rw [if_pos z] at h; cases h; exact ⟨z, rfl⟩
  rw [if_neg z] at h
  cases h
theorem mtc_record {cn f : String} (h : PR.mt cn "record" = some f) : (cn = "Machine" ∧ f = "Machine.record") := by
  simp only [PR, String.reduceEq, reduceIte] at h
  by_cases z : cn = "Machine"
  · rw [if_pos z] at h; cases h; exact ⟨z, rfl⟩
  rw [if_neg z] at h
  cases h
theorem mtc_step {cn f : String} (h : PR.mt cn "step" = some f) : (cn = "Machine" ∧ f = "Machine.step") := by
  simp only [PR, String.reduceEq, reduceIte] at h
  by_cases z : cn = "Machine"
  · rw [if_pos z] at h; cases h; exact ⟨z, rfl⟩
  rw [if_neg z] at h
  cases h
theorem mtc_told {cn f : String} (h : PR.mt cn "told" = some f) : (cn = "Deed" ∧ f = "Deed.told") ∨ (cn = "Save" ∧ f = "Save.told") ∨ (cn = "Move" ∧ f = "Move.told") ∨ (cn = "Note" ∧ f = "Note.told") ∨ (cn = "Journal" ∧ f = "Journal.told") := by
  simp only [PR, String.reduceEq, reduceIte] at h
  by_cases z : cn = "Deed"
  · rw [if_pos z] at h; cases h; exact .inl ⟨z, rfl⟩
  rw [if_neg z] at h
  by_cases z : cn = "Save"
  · rw [if_pos z] at h; cases h; exact .inr (.inl ⟨z, rfl⟩)
  rw [if_neg z] at h
  by_cases z : cn = "Move"
  · rw [if_pos z] at h; cases h; exact .inr (.inr (.inl ⟨z, rfl⟩))
  rw [if_neg z] at h
  by_cases z : cn = "Note"
  · rw [if_pos z] at h; cases h; exact .inr (.inr (.inr (.inl ⟨z, rfl⟩)))
  rw [if_neg z] at h
  by_cases z : cn = "Journal"
  · rw [if_pos z] at h; cases h; exact .inr (.inr (.inr (.inr (⟨z, rfl⟩))))
  rw [if_neg z] at h
  cases h
theorem mtc_tree {cn f : String} (h : PR.mt cn "tree" = some f) : (cn = "Frame" ∧ f = "Frame.tree") := by
  simp only [PR, String.reduceEq, reduceIte] at h
  by_cases z : cn = "Frame"
  · rw [if_pos z] at h; cases h; exact ⟨z, rfl⟩
  rw [if_neg z] at h
  cases h
theorem mtc_unbegun {cn f : String} (h : PR.mt cn "unbegun" = some f) : (cn = "Machine" ∧ f = "Machine.unbegun") := by
  simp only [PR, String.reduceEq, reduceIte] at h
  by_cases z : cn = "Machine"
  · rw [if_pos z] at h; cases h; exact ⟨z, rfl⟩
  rw [if_neg z] at h
  cases h
theorem mtc_undo {cn f : String} (h : PR.mt cn "undo" = some f) : (cn = "Deed" ∧ f = "Deed.undo") ∨ (cn = "Save" ∧ f = "Save.undo") ∨ (cn = "Move" ∧ f = "Move.undo") ∨ (cn = "Note" ∧ f = "Note.undo") := by
  simp only [PR, String.reduceEq, reduceIte] at h
  by_cases z : cn = "Deed"
  · rw [if_pos z] at h; cases h; exact .inl ⟨z, rfl⟩
  rw [if_neg z] at h
  by_cases z : cn = "Save"
  · rw [if_pos z] at h; cases h; exact .inr (.inl ⟨z, rfl⟩)
  rw [if_neg z] at h
  by_cases z : cn = "Move"
  · rw [if_pos z] at h; cases h; exact .inr (.inr (.inl ⟨z, rfl⟩))
  rw [if_neg z] at h
  by_cases z : cn = "Note"
  · rw [if_pos z] at h; cases h; exact .inr (.inr (.inr (⟨z, rfl⟩)))
  rw [if_neg z] at h
  cases h
theorem mtc_write {cn f : String} (h : PR.mt cn "write" = some f) : (cn = "Journal" ∧ f = "Journal.write") := by
  simp only [PR, String.reduceEq, reduceIte] at h
  by_cases z : cn = "Journal"
  · rw [if_pos z] at h; cases h; exact ⟨z, rfl⟩
  rw [if_neg z] at h
  cases h
theorem al_zero {P : Program} {w : World} {K : PySem.W.Frag} {mg : Str → Option Value} {base : Heap} (T : HF K mg) : AL P w K mg base 0 :=
  ⟨cal_Deed_do T fun _ _ => fn_zero,
   cal_Deed_undo T fun _ _ => fn_zero,
   cal_Deed_told T fun _ _ => fn_zero,
   cal_Save_init T fun _ _ => fn_zero,
   cal_Save_do T fun _ _ => fn_zero,
   cal_Save_undo T fun _ _ => fn_zero,
   cal_Save_told T fun _ _ => fn_zero,
   cal_carry T fun _ _ => fn_zero,
   cal_Move_init T fun _ _ => fn_zero,
   cal_Move_do T fun _ _ => fn_zero,
   cal_Move_undo T fun _ _ => fn_zero,
   cal_Move_told T fun _ _ => fn_zero,
   cal_Note_init T fun _ _ => fn_zero,
   cal_Note_told T fun _ _ => fn_zero,
   cal_reckons T fun _ _ => fn_zero,
   cal_takes T fun _ _ => fn_zero,
   cal_leaves T fun _ _ => fn_zero,
   cal_price T fun _ _ => fn_zero,
   cal_shared T fun _ _ => fn_zero,
   cal_moved T fun _ _ => fn_zero,
   cal_reckon T fun _ _ => fn_zero,
   cal_Frame_init T fun _ _ => fn_zero,
   cal_Frame_finish T fun _ _ => fn_zero,
   cal_Frame_is_short T fun _ _ => fn_zero,
   cal_Frame_is_full T fun _ _ => fn_zero,
   cal_Frame_tree T fun _ _ => fn_zero,
   cal_Frame_place T fun _ _ => fn_zero,
   cal_Frame_move_about T fun _ _ => fn_zero,
   cal_Frame_lead T fun _ _ => fn_zero,
   cal_Frame_plain_row T fun _ _ => fn_zero,
   cal_is_change T fun _ _ => fn_zero,
   cal_Machine_init T fun _ _ => fn_zero,
   cal_Machine_account T fun _ _ => fn_zero,
   cal_Machine_record T fun _ _ => fn_zero,
   cal_Machine_cost T fun _ _ => fn_zero,
   cal_Machine_fault T fun _ _ => fn_zero,
   cal_Machine_unbegun T fun _ _ => fn_zero,
   cal_Machine_inner_call T fun _ _ => fn_zero,
   cal_Machine_begin T fun _ _ => fn_zero,
   cal_Machine_done T fun _ _ => fn_zero,
   cal_Machine_step T fun _ _ => fn_zero,
   cal_Machine_go T fun _ _ => fn_zero,
   cal_enter T fun _ _ => fn_zero,
   cal_Account_init T fun _ _ => fn_zero,
   cal_Account_loaded T fun _ _ => fn_zero,
   cal_Account_keep T fun _ _ => fn_zero,
   cal_Journal_init T fun _ _ => fn_zero,
   cal_Journal_write T fun _ _ => fn_zero,
   cal_Journal_mark T fun _ _ => fn_zero,
   cal_Journal_back T fun _ _ => fn_zero,
   cal_Journal_told T fun _ _ => fn_zero,
   cal_l_cell_at T fun _ _ => fn_zero,
   cal_l_alike T fun _ _ => fn_zero,
   cal_l_program T fun _ _ => fn_zero,
   cal_l_gone T fun _ _ => fn_zero,
   cal_law T fun _ _ => fn_zero,
   cal_Note_do T fun _ _ => fn_zero,
   cal_Note_undo T fun _ _ => fn_zero,
   ⟨by
      intro cn f h
      rcases mtc_account h with ⟨rfl, rfl⟩
      · exact ⟨T.c_Machine, _, _, T.m_Machine_account, cal_Machine_account T fun _ _ => fn_zero⟩⟩,
   ⟨by
      intro cn f h
      rcases mtc_back h with ⟨rfl, rfl⟩
      · exact ⟨T.c_Journal, _, _, T.m_Journal_back, cal_Journal_back T fun _ _ => fn_zero⟩⟩,
   ⟨by
      intro cn f h
      rcases mtc_begin h with ⟨rfl, rfl⟩
      · exact ⟨T.c_Machine, _, _, T.m_Machine_begin, cal_Machine_begin T fun _ _ => fn_zero⟩⟩,
   ⟨by
      intro cn f h
      rcases mtc_cost h with ⟨rfl, rfl⟩
      · exact ⟨T.c_Machine, _, _, T.m_Machine_cost, cal_Machine_cost T fun _ _ => fn_zero⟩⟩,
   ⟨by
      intro cn f h
      rcases mtc_do h with ⟨rfl, rfl⟩ | ⟨rfl, rfl⟩ | ⟨rfl, rfl⟩ | ⟨rfl, rfl⟩
      · exact ⟨T.c_Deed, _, _, T.m_Deed_do, cal_Deed_do T fun _ _ => fn_zero⟩
      · exact ⟨T.c_Save, _, _, T.m_Save_do, cal_Save_do T fun _ _ => fn_zero⟩
      · exact ⟨T.c_Move, _, _, T.m_Move_do, cal_Move_do T fun _ _ => fn_zero⟩
      · exact ⟨T.c_Note, _, _, T.m_Note_do, cal_Note_do T fun _ _ => fn_zero⟩⟩,
   ⟨by
      intro cn f h
      rcases mtc_done h with ⟨rfl, rfl⟩
      · exact ⟨T.c_Machine, _, _, T.m_Machine_done, cal_Machine_done T fun _ _ => fn_zero⟩⟩,
   ⟨by
      intro cn f h
      rcases mtc_fault h with ⟨rfl, rfl⟩
      · exact ⟨T.c_Machine, _, _, T.m_Machine_fault, cal_Machine_fault T fun _ _ => fn_zero⟩⟩,
   ⟨by
      intro cn f h
      rcases mtc_finish h with ⟨rfl, rfl⟩
      · exact ⟨T.c_Frame, _, _, T.m_Frame_finish, cal_Frame_finish T fun _ _ => fn_zero⟩⟩,
   ⟨by
      intro cn f h
      rcases mtc_go h with ⟨rfl, rfl⟩
      · exact ⟨T.c_Machine, _, _, T.m_Machine_go, cal_Machine_go T fun _ _ => fn_zero⟩⟩,
   ⟨by
      intro cn f h
      rcases mtc_inner_call h with ⟨rfl, rfl⟩
      · exact ⟨T.c_Machine, _, _, T.m_Machine_inner_call, cal_Machine_inner_call T fun _ _ => fn_zero⟩⟩,
   ⟨by
      intro cn f h
      rcases mtc_is_full h with ⟨rfl, rfl⟩
      · exact ⟨T.c_Frame, _, _, T.m_Frame_is_full, cal_Frame_is_full T fun _ _ => fn_zero⟩⟩,
   ⟨by
      intro cn f h
      rcases mtc_is_short h with ⟨rfl, rfl⟩
      · exact ⟨T.c_Frame, _, _, T.m_Frame_is_short, cal_Frame_is_short T fun _ _ => fn_zero⟩⟩,
   ⟨by
      intro cn f h
      rcases mtc_keep h with ⟨rfl, rfl⟩
      · exact ⟨T.c_Account, _, _, T.m_Account_keep, cal_Account_keep T fun _ _ => fn_zero⟩⟩,
   ⟨by
      intro cn f h
      rcases mtc_lead h with ⟨rfl, rfl⟩
      · exact ⟨T.c_Frame, _, _, T.m_Frame_lead, cal_Frame_lead T fun _ _ => fn_zero⟩⟩,
   ⟨by
      intro cn f h
      rcases mtc_loaded h with ⟨rfl, rfl⟩
      · exact ⟨T.c_Account, _, _, T.m_Account_loaded, cal_Account_loaded T fun _ _ => fn_zero⟩⟩,
   ⟨by
      intro cn f h
      rcases mtc_mark h with ⟨rfl, rfl⟩
      · exact ⟨T.c_Journal, _, _, T.m_Journal_mark, cal_Journal_mark T fun _ _ => fn_zero⟩⟩,
   ⟨by
      intro cn f h
      rcases mtc_move_about h with ⟨rfl, rfl⟩
      · exact ⟨T.c_Frame, _, _, T.m_Frame_move_about, cal_Frame_move_about T fun _ _ => fn_zero⟩⟩,
   ⟨by
      intro cn f h
      rcases mtc_place h with ⟨rfl, rfl⟩
      · exact ⟨T.c_Frame, _, _, T.m_Frame_place, cal_Frame_place T fun _ _ => fn_zero⟩⟩,
   ⟨by
      intro cn f h
      rcases mtc_plain_row h with ⟨rfl, rfl⟩
      · exact ⟨T.c_Frame, _, _, T.m_Frame_plain_row, cal_Frame_plain_row T fun _ _ => fn_zero⟩⟩,
   ⟨by
      intro cn f h
      rcases mtc_record h with ⟨rfl, rfl⟩
      · exact ⟨T.c_Machine, _, _, T.m_Machine_record, cal_Machine_record T fun _ _ => fn_zero⟩⟩,
   ⟨by
      intro cn f h
      rcases mtc_step h with ⟨rfl, rfl⟩
      · exact ⟨T.c_Machine, _, _, T.m_Machine_step, cal_Machine_step T fun _ _ => fn_zero⟩⟩,
   ⟨by
      intro cn f h
      rcases mtc_told h with ⟨rfl, rfl⟩ | ⟨rfl, rfl⟩ | ⟨rfl, rfl⟩ | ⟨rfl, rfl⟩ | ⟨rfl, rfl⟩
      · exact ⟨T.c_Deed, _, _, T.m_Deed_told, cal_Deed_told T fun _ _ => fn_zero⟩
      · exact ⟨T.c_Save, _, _, T.m_Save_told, cal_Save_told T fun _ _ => fn_zero⟩
      · exact ⟨T.c_Move, _, _, T.m_Move_told, cal_Move_told T fun _ _ => fn_zero⟩
      · exact ⟨T.c_Note, _, _, T.m_Note_told, cal_Note_told T fun _ _ => fn_zero⟩
      · exact ⟨T.c_Journal, _, _, T.m_Journal_told, cal_Journal_told T fun _ _ => fn_zero⟩⟩,
   ⟨by
      intro cn f h
      rcases mtc_tree h with ⟨rfl, rfl⟩
      · exact ⟨T.c_Frame, _, _, T.m_Frame_tree, cal_Frame_tree T fun _ _ => fn_zero⟩⟩,
   ⟨by
      intro cn f h
      rcases mtc_unbegun h with ⟨rfl, rfl⟩
      · exact ⟨T.c_Machine, _, _, T.m_Machine_unbegun, cal_Machine_unbegun T fun _ _ => fn_zero⟩⟩,
   ⟨by
      intro cn f h
      rcases mtc_undo h with ⟨rfl, rfl⟩ | ⟨rfl, rfl⟩ | ⟨rfl, rfl⟩ | ⟨rfl, rfl⟩
      · exact ⟨T.c_Deed, _, _, T.m_Deed_undo, cal_Deed_undo T fun _ _ => fn_zero⟩
      · exact ⟨T.c_Save, _, _, T.m_Save_undo, cal_Save_undo T fun _ _ => fn_zero⟩
      · exact ⟨T.c_Move, _, _, T.m_Move_undo, cal_Move_undo T fun _ _ => fn_zero⟩
      · exact ⟨T.c_Note, _, _, T.m_Note_undo, cal_Note_undo T fun _ _ => fn_zero⟩⟩,
   ⟨by
      intro cn f h
      rcases mtc_write h with ⟨rfl, rfl⟩
      · exact ⟨T.c_Journal, _, _, T.m_Journal_write, cal_Journal_write T fun _ _ => fn_zero⟩⟩,
   ⟨⟨_, _, _, (by first | rfl | simp [PR]), T.mk_Account, cal_Account_init T fun _ _ => fn_zero⟩⟩,
   ⟨⟨_, _, _, (by first | rfl | simp [PR]), T.mk_Frame, cal_Frame_init T fun _ _ => fn_zero⟩⟩,
   ⟨⟨_, _, _, (by first | rfl | simp [PR]), T.mk_Journal, cal_Journal_init T fun _ _ => fn_zero⟩⟩,
   ⟨⟨_, _, _, (by first | rfl | simp [PR]), T.mk_Machine, cal_Machine_init T fun _ _ => fn_zero⟩⟩,
   ⟨⟨_, _, _, (by first | rfl | simp [PR]), T.mk_Move, cal_Move_init T fun _ _ => fn_zero⟩⟩,
   ⟨⟨_, _, _, (by first | rfl | simp [PR]), T.mk_Note, cal_Note_init T fun _ _ => fn_zero⟩⟩,
   ⟨⟨_, _, _, (by first | rfl | simp [PR]), T.mk_Save, cal_Save_init T fun _ _ => fn_zero⟩⟩⟩
theorem al_succ {P : Program} {w : World} {K : PySem.W.Frag} {mg : Str → Option Value} {base : Heap} {n : Nat} (T : HF K mg) (A : AL P w K mg base n) : AL P w K mg base (n + 1) :=
  ⟨cal_Deed_do T fun _ F => ok_Deed_do T A F,
   cal_Deed_undo T fun _ F => ok_Deed_undo T A F,
   cal_Deed_told T fun _ F => ok_Deed_told T A F,
   cal_Save_init T fun _ F => ok_Save_init T A F,
   cal_Save_do T fun _ F => ok_Save_do T A F,
   cal_Save_undo T fun _ F => ok_Save_undo T A F,
   cal_Save_told T fun _ F => ok_Save_told T A F,
   cal_carry T fun _ F => ok_carry T A F,
   cal_Move_init T fun _ F => ok_Move_init T A F,
   cal_Move_do T fun _ F => ok_Move_do T A F,
   cal_Move_undo T fun _ F => ok_Move_undo T A F,
   cal_Move_told T fun _ F => ok_Move_told T A F,
   cal_Note_init T fun _ F => ok_Note_init T A F,
   cal_Note_told T fun _ F => ok_Note_told T A F,
   cal_reckons T fun _ F => ok_reckons T A F,
   cal_takes T fun _ F => ok_takes T A F,
   cal_leaves T fun _ F => ok_leaves T A F,
   cal_price T fun _ F => ok_price T A F,
   cal_shared T fun _ F => ok_shared T A F,
   cal_moved T fun _ F => ok_moved T A F,
   cal_reckon T fun _ F => ok_reckon T A F,
   cal_Frame_init T fun _ F => ok_Frame_init T A F,
   cal_Frame_finish T fun _ F => ok_Frame_finish T A F,
   cal_Frame_is_short T fun _ F => ok_Frame_is_short T A F,
   cal_Frame_is_full T fun _ F => ok_Frame_is_full T A F,
   cal_Frame_tree T fun _ F => ok_Frame_tree T A F,
   cal_Frame_place T fun _ F => ok_Frame_place T A F,
   cal_Frame_move_about T fun _ F => ok_Frame_move_about T A F,
   cal_Frame_lead T fun _ F => ok_Frame_lead T A F,
   cal_Frame_plain_row T fun _ F => ok_Frame_plain_row T A F,
   cal_is_change T fun _ F => ok_is_change T A F,
   cal_Machine_init T fun _ F => ok_Machine_init T A F,
   cal_Machine_account T fun _ F => ok_Machine_account T A F,
   cal_Machine_record T fun _ F => ok_Machine_record T A F,
   cal_Machine_cost T fun _ F => ok_Machine_cost T A F,
   cal_Machine_fault T fun _ F => ok_Machine_fault T A F,
   cal_Machine_unbegun T fun _ F => ok_Machine_unbegun T A F,
   cal_Machine_inner_call T fun _ F => ok_Machine_inner_call T A F,
   cal_Machine_begin T fun _ F => ok_Machine_begin T A F,
   cal_Machine_done T fun _ F => ok_Machine_done T A F,
   cal_Machine_step T fun _ F => ok_Machine_step T A F,
   cal_Machine_go T fun _ F => ok_Machine_go T A F,
   cal_enter T fun _ F => ok_enter T A F,
   cal_Account_init T fun _ F => ok_Account_init T A F,
   cal_Account_loaded T fun _ F => ok_Account_loaded T A F,
   cal_Account_keep T fun _ F => ok_Account_keep T A F,
   cal_Journal_init T fun _ F => ok_Journal_init T A F,
   cal_Journal_write T fun _ F => ok_Journal_write T A F,
   cal_Journal_mark T fun _ F => ok_Journal_mark T A F,
   cal_Journal_back T fun _ F => ok_Journal_back T A F,
   cal_Journal_told T fun _ F => ok_Journal_told T A F,
   cal_l_cell_at T fun _ F => ok_l_cell_at T A F,
   cal_l_alike T fun _ F => ok_l_alike T A F,
   cal_l_program T fun _ F => ok_l_program T A F,
   cal_l_gone T fun _ F => ok_l_gone T A F,
   cal_law T fun _ F => ok_law T A F,
   cal_Note_do T fun _ F => ok_Note_do T A F,
   cal_Note_undo T fun _ F => ok_Note_undo T A F,
   ⟨by
      intro cn f h
      rcases mtc_account h with ⟨rfl, rfl⟩
      · exact ⟨T.c_Machine, _, _, T.m_Machine_account, cal_Machine_account T fun _ F => ok_Machine_account T A F⟩⟩,
   ⟨by
      intro cn f h
      rcases mtc_back h with ⟨rfl, rfl⟩
      · exact ⟨T.c_Journal, _, _, T.m_Journal_back, cal_Journal_back T fun _ F => ok_Journal_back T A F⟩⟩,
   ⟨by
      intro cn f h
      rcases mtc_begin h with ⟨rfl, rfl⟩
      · exact ⟨T.c_Machine, _, _, T.m_Machine_begin, cal_Machine_begin T fun _ F => ok_Machine_begin T A F⟩⟩,
   ⟨by
      intro cn f h
      rcases mtc_cost h with ⟨rfl, rfl⟩
      · exact ⟨T.c_Machine, _, _, T.m_Machine_cost, cal_Machine_cost T fun _ F => ok_Machine_cost T A F⟩⟩,
   ⟨by
      intro cn f h
      rcases mtc_do h with ⟨rfl, rfl⟩ | ⟨rfl, rfl⟩ | ⟨rfl, rfl⟩ | ⟨rfl, rfl⟩
      · exact ⟨T.c_Deed, _, _, T.m_Deed_do, cal_Deed_do T fun _ F => ok_Deed_do T A F⟩
      · exact ⟨T.c_Save, _, _, T.m_Save_do, cal_Save_do T fun _ F => ok_Save_do T A F⟩
      · exact ⟨T.c_Move, _, _, T.m_Move_do, cal_Move_do T fun _ F => ok_Move_do T A F⟩
      · exact ⟨T.c_Note, _, _, T.m_Note_do, cal_Note_do T fun _ F => ok_Note_do T A F⟩⟩,
   ⟨by
      intro cn f h
      rcases mtc_done h with ⟨rfl, rfl⟩
      · exact ⟨T.c_Machine, _, _, T.m_Machine_done, cal_Machine_done T fun _ F => ok_Machine_done T A F⟩⟩,
   ⟨by
      intro cn f h
      rcases mtc_fault h with ⟨rfl, rfl⟩
      · exact ⟨T.c_Machine, _, _, T.m_Machine_fault, cal_Machine_fault T fun _ F => ok_Machine_fault T A F⟩⟩,
   ⟨by
      intro cn f h
      rcases mtc_finish h with ⟨rfl, rfl⟩
      · exact ⟨T.c_Frame, _, _, T.m_Frame_finish, cal_Frame_finish T fun _ F => ok_Frame_finish T A F⟩⟩,
   ⟨by
      intro cn f h
      rcases mtc_go h with ⟨rfl, rfl⟩
      · exact ⟨T.c_Machine, _, _, T.m_Machine_go, cal_Machine_go T fun _ F => ok_Machine_go T A F⟩⟩,
   ⟨by
      intro cn f h
      rcases mtc_inner_call h with ⟨rfl, rfl⟩
      · exact ⟨T.c_Machine, _, _, T.m_Machine_inner_call, cal_Machine_inner_call T fun _ F => ok_Machine_inner_call T A F⟩⟩,
   ⟨by
      intro cn f h
      rcases mtc_is_full h with ⟨rfl, rfl⟩
      · exact ⟨T.c_Frame, _, _, T.m_Frame_is_full, cal_Frame_is_full T fun _ F => ok_Frame_is_full T A F⟩⟩,
   ⟨by
      intro cn f h
      rcases mtc_is_short h with ⟨rfl, rfl⟩
      · exact ⟨T.c_Frame, _, _, T.m_Frame_is_short, cal_Frame_is_short T fun _ F => ok_Frame_is_short T A F⟩⟩,
   ⟨by
      intro cn f h
      rcases mtc_keep h with ⟨rfl, rfl⟩
      · exact ⟨T.c_Account, _, _, T.m_Account_keep, cal_Account_keep T fun _ F => ok_Account_keep T A F⟩⟩,
   ⟨by
      intro cn f h
      rcases mtc_lead h with ⟨rfl, rfl⟩
      · exact ⟨T.c_Frame, _, _, T.m_Frame_lead, cal_Frame_lead T fun _ F => ok_Frame_lead T A F⟩⟩,
   ⟨by
      intro cn f h
      rcases mtc_loaded h with ⟨rfl, rfl⟩
      · exact ⟨T.c_Account, _, _, T.m_Account_loaded, cal_Account_loaded T fun _ F => ok_Account_loaded T A F⟩⟩,
   ⟨by
      intro cn f h
      rcases mtc_mark h with ⟨rfl, rfl⟩
      · exact ⟨T.c_Journal, _, _, T.m_Journal_mark, cal_Journal_mark T fun _ F => ok_Journal_mark T A F⟩⟩,
   ⟨by
      intro cn f h
      rcases mtc_move_about h with ⟨rfl, rfl⟩
      · exact ⟨T.c_Frame, _, _, T.m_Frame_move_about, cal_Frame_move_about T fun _ F => ok_Frame_move_about T A F⟩⟩,
   ⟨by
      intro cn f h
      rcases mtc_place h with ⟨rfl, rfl⟩
      · exact ⟨T.c_Frame, _, _, T.m_Frame_place, cal_Frame_place T fun _ F => ok_Frame_place T A F⟩⟩,
   ⟨by
      intro cn f h
      rcases mtc_plain_row h with ⟨rfl, rfl⟩
      · exact ⟨T.c_Frame, _, _, T.m_Frame_plain_row, cal_Frame_plain_row T fun _ F => ok_Frame_plain_row T A F⟩⟩,
   ⟨by
      intro cn f h
      rcases mtc_record h with ⟨rfl, rfl⟩
      · exact ⟨T.c_Machine, _, _, T.m_Machine_record, cal_Machine_record T fun _ F => ok_Machine_record T A F⟩⟩,
   ⟨by
      intro cn f h
      rcases mtc_step h with ⟨rfl, rfl⟩
      · exact ⟨T.c_Machine, _, _, T.m_Machine_step, cal_Machine_step T fun _ F => ok_Machine_step T A F⟩⟩,
   ⟨by
      intro cn f h
      rcases mtc_told h with ⟨rfl, rfl⟩ | ⟨rfl, rfl⟩ | ⟨rfl, rfl⟩ | ⟨rfl, rfl⟩ | ⟨rfl, rfl⟩
      · exact ⟨T.c_Deed, _, _, T.m_Deed_told, cal_Deed_told T fun _ F => ok_Deed_told T A F⟩
      · exact ⟨T.c_Save, _, _, T.m_Save_told, cal_Save_told T fun _ F => ok_Save_told T A F⟩
      · exact ⟨T.c_Move, _, _, T.m_Move_told, cal_Move_told T fun _ F => ok_Move_told T A F⟩
      · exact ⟨T.c_Note, _, _, T.m_Note_told, cal_Note_told T fun _ F => ok_Note_told T A F⟩
      · exact ⟨T.c_Journal, _, _, T.m_Journal_told, cal_Journal_told T fun _ F => ok_Journal_told T A F⟩⟩,
   ⟨by
      intro cn f h
      rcases mtc_tree h with ⟨rfl, rfl⟩
      · exact ⟨T.c_Frame, _, _, T.m_Frame_tree, cal_Frame_tree T fun _ F => ok_Frame_tree T A F⟩⟩,
   ⟨by
      intro cn f h
      rcases mtc_unbegun h with ⟨rfl, rfl⟩
      · exact ⟨T.c_Machine, _, _, T.m_Machine_unbegun, cal_Machine_unbegun T fun _ F => ok_Machine_unbegun T A F⟩⟩,
   ⟨by
      intro cn f h
      rcases mtc_undo h with ⟨rfl, rfl⟩ | ⟨rfl, rfl⟩ | ⟨rfl, rfl⟩ | ⟨rfl, rfl⟩
      · exact ⟨T.c_Deed, _, _, T.m_Deed_undo, cal_Deed_undo T fun _ F => ok_Deed_undo T A F⟩
      · exact ⟨T.c_Save, _, _, T.m_Save_undo, cal_Save_undo T fun _ F => ok_Save_undo T A F⟩
      · exact ⟨T.c_Move, _, _, T.m_Move_undo, cal_Move_undo T fun _ F => ok_Move_undo T A F⟩
      · exact ⟨T.c_Note, _, _, T.m_Note_undo, cal_Note_undo T fun _ F => ok_Note_undo T A F⟩⟩,
   ⟨by
      intro cn f h
      rcases mtc_write h with ⟨rfl, rfl⟩
      · exact ⟨T.c_Journal, _, _, T.m_Journal_write, cal_Journal_write T fun _ F => ok_Journal_write T A F⟩⟩,
   ⟨⟨_, _, _, (by first | rfl | simp [PR]), T.mk_Account, cal_Account_init T fun _ F => ok_Account_init T A F⟩⟩,
   ⟨⟨_, _, _, (by first | rfl | simp [PR]), T.mk_Frame, cal_Frame_init T fun _ F => ok_Frame_init T A F⟩⟩,
   ⟨⟨_, _, _, (by first | rfl | simp [PR]), T.mk_Journal, cal_Journal_init T fun _ F => ok_Journal_init T A F⟩⟩,
   ⟨⟨_, _, _, (by first | rfl | simp [PR]), T.mk_Machine, cal_Machine_init T fun _ F => ok_Machine_init T A F⟩⟩,
   ⟨⟨_, _, _, (by first | rfl | simp [PR]), T.mk_Move, cal_Move_init T fun _ F => ok_Move_init T A F⟩⟩,
   ⟨⟨_, _, _, (by first | rfl | simp [PR]), T.mk_Note, cal_Note_init T fun _ F => ok_Note_init T A F⟩⟩,
   ⟨⟨_, _, _, (by first | rfl | simp [PR]), T.mk_Save, cal_Save_init T fun _ F => ok_Save_init T A F⟩⟩⟩
theorem al_all {P : Program} {w : World} {K : PySem.W.Frag} {mg : Str → Option Value} {base : Heap} (T : HF K mg) : ∀ n, AL P w K mg base n
  | 0 => al_zero T
  | n + 1 => al_succ T (al_all T n)
abbrev R : PySem.W.OpenRow := PySem.W.OpenLaw.row PySem.Challenge.rw_meterhouse_k32_jumps
abbrev hk : PySem.W.Hook := hookZ 4 fas dfs exb
def ob (s : PySem.W.SharedT) : AlZ := obsZ 4 fas dfs exb (HandSHeadRun.getT s)
theorem ob_eq (s : PySem.W.SharedT) : ob s = hk.obs s.abs := obsZ_eq (HandSHeadRun.getT_eq s)
theorem run (w : World) : HandSHeadRun.RunEq R (PySem.W.view R.prog [35]) hk ob 40000 ("_wall" :: "Deed" :: "Save" :: "carry" :: "Move" :: "Note" :: "WIDE" :: "WORDS" :: "reckons" :: "takes" :: "leaves" :: "price" :: "shared" :: "moved" :: "reckon" :: "STACK" :: "Frame" :: "DEEP" :: "is_change" :: "Machine" :: "enter" :: "Account" :: "Journal" :: "_law_cell_at" :: "_law_alike" :: "_law_program" :: "_law_gone" :: []) w := by
  intro os
  kernel_rfl
end K32
end Z
open PySem PySem.W PySem.Calls PyProof.Rows
theorem Z.K32.holds_of (N : Nat) (hN : Nat.ble N 100 = true) (sol : ∀ ns : List Int, ns.length ≤ 63 → ∃ h', Z.callF Z.K32.PR (N + 1) "law" [.ref 0] (Z.h0 ns) = some (.ok (.bl true), h')) : PySem.Challenge.rw_meterhouse_k32_jumps.Holds := by
  w_on; o_law
  refine HandSHeadRun.head_any (r := OpenLaw.row PySem.Challenge.rw_meterhouse_k32_jumps) (q := view (OpenLaw.row PySem.Challenge.rw_meterhouse_k32_jumps).prog [35]) (H := Z.K32.hk) (ob := Z.K32.ob) (M := 40000) (loose := ("_wall" :: "Deed" :: "Save" :: "carry" :: "Move" :: "Note" :: "WIDE" :: "WORDS" :: "reckons" :: "takes" :: "leaves" :: "price" :: "shared" :: "moved" :: "reckon" :: "STACK" :: "Frame" :: "DEEP" :: "is_change" :: "Machine" :: "enter" :: "Account" :: "Journal" :: "_law_cell_at" :: "_law_alike" :: "_law_program" :: "_law_gone" :: [])) (d := HandSHeadRun.topDef (OpenLaw.row PySem.Challenge.rw_meterhouse_k32_jumps).prog 35) (kwd := []) Z.K32.ob_eq
    (by kernel_rfl) (fun s => by kernel_rfl) Z.K32.run (by kernel_rfl) (by kernel_rfl) (by kernel_rfl) (by rfl) (by first | assumption | decide +kernel) (by decide +kernel) ⟨rfl, rfl, rfl, rfl, rfl, by decide +kernel⟩ ?hw ?hc
  case hw => w_witness2
  case hc =>
    refine L2.walk_ofE (l := PySem.Challenge.rw_meterhouse_k32_jumps) (n := 63) (k := 2 * (N + 1)) (x := "_law_script") (CX := L2.CX0) rfl (by decide) (by kernel_rfl) (L2.Room.mono (k := 202) ⟨rfl, by decide, by decide⟩ (by have := Nat.le_of_ble_eq_true hN; omega)) ?F (fun _ _ _ _ z => z)
    intro w mg fa h Y G hmg0
    obtain ⟨K, KX, c⟩ := Y
    have hmg : mg ("law" : PySem.Str) = some (.ref fa) := by
      have e : (HandSHeadRun.topDef (OpenLaw.row PySem.Challenge.rw_meterhouse_k32_jumps).prog 35).name = ("law" : PySem.Str) := by kernel_rfl
      rw [← e]
      exact hmg0
    have T := Z.K32.hf_of KX G c
    obtain ⟨fd, F⟩ := T.d_law
    have e := hmg.symm.trans T.g_law
    cases e
    have b := L2.FunD.bindsA (ps := ["_law_script"]) F fun _ _ _ _ _ _ us hl => match us, hl with | [_], _ => rfl
    exact ⟨K, fd, fun vs H Q _ => Z.spR Z.K32.PR K (N + 1) "law" vs H Q fun _ _ _ => False, KX, fun s v => b s [v] rfl, fun H a ns hl hO hS => Z.law_sp (n := 63) Z.K32.fn_law rfl sol H a ns hl hO hS, fun base hb hn => Z.ok0 (Z.K32.ok_law T (Z.K32.al_all T N) F)⟩

set_option maxRecDepth 100000
set_option maxHeartbeats 4000000
namespace Z
namespace K32
open PySem
local macro_rules
  | `(tactic| trivial) => `(tactic| first | omega | (simp only [new_next, put_next, h0_next, List.length_map, List.length_append, List.length_cons, List.length_nil, List.length_range] <;> omega))
local macro_rules
  | `(tactic| simp_arith [$ls,*]) => `(tactic| simp (maxSteps := 1000000) (disch := first | omega | (simp only [new_next, put_next, h0_next, List.length_map, List.length_append, List.length_cons, List.length_nil, List.length_range] <;> omega) | assumption | (simp <;> fail) | omega) [$ls,*])
  | `(tactic| simp_arith [$ls,*] $loc:location) => `(tactic| simp (maxSteps := 1000000) (disch := first | omega | (simp only [new_next, put_next, h0_next, List.length_map, List.length_append, List.length_cons, List.length_nil, List.length_range] <;> omega) | assumption | (simp <;> fail) | omega) [$ls,*] $loc)
local macro_rules
  | `(tactic| simp_arith! [$ls,*]) => `(tactic| simp (maxSteps := 1000000) (disch := first | omega | (simp only [new_next, put_next, h0_next, List.length_map, List.length_append, List.length_cons, List.length_nil, List.length_range] <;> omega) | assumption | (simp (disch := omega) <;> assumption) | omega) [$ls,*])
  | `(tactic| simp_arith! [$ls,*] $loc:location) => `(tactic| simp (maxSteps := 1000000) (disch := first | omega | (simp only [new_next, put_next, h0_next, List.length_map, List.length_append, List.length_cons, List.length_nil, List.length_range] <;> omega) | assumption | (simp (disch := omega) <;> assumption) | omega) [$ls,*] $loc)

inductive Sm where
  | add | minus | times | over | rest | below | same | both | either | unlike | up | down
def Sm.w : Sm → String
  | .add => "add" | .minus => "minus" | .times => "times" | .over => "over" | .rest => "rest" | .below => "below" | .same => "same" | .both => "both" | .either => "either" | .unlike => "unlike" | .up => "up" | .down => "down"
def U (x : Int) : Prop := 0 ≤ x ∧ x < 18446744073709551616
def Sm.op : Sm → Int → Int → Int
  | .add, a, b => (a + b) % 18446744073709551616
  | .minus, a, b => (a - b) % 18446744073709551616
  | .times, a, b => a * b % 18446744073709551616
  | .over, a, b => if b = 0 then 0 else a / b
  | .rest, a, b => if b = 0 then 0 else a % b
  | .below, a, b => if a < b then 1 else 0
  | .same, a, b => if a = b then 1 else 0
  | .both, a, b => Builtin.bitAnd a b
  | .either, a, b => Builtin.bitOr a b
  | .unlike, a, b => Builtin.bitXor a b
  | .up, a, b => if 64 ≤ b then 0 else a * 2 ^ b.toNat % 18446744073709551616
  | .down, a, b => if 64 ≤ b then 0 else a / 2 ^ b.toNat
theorem c_shared (n : Nat) (w : Sm) (hw : w = .over ∨ w = .rest) (a b : Int) (h : Hm) (ha : U a) (hb : U b) : callF PR (n + 1) "shared" [.str (Str.ofString w.w), .int a, .int b] h = some (.ok (.int (w.op a b)), h) := by
  rw [callF_eq fn_shared rfl]
  obtain ⟨a0, a1⟩ := ha
  obtain ⟨b0, b1⟩ := hb
  by_cases h0 : b = 0
  · subst h0
    rcases hw with rfl | rfl <;> simp_arith [F_shared, Sm.w, Sm.op]
  · have dm : ∀ g : Hm, biD .divmod [.int a, .int b] g = some (.ok (.tup [.int (a / b), .int (a % b)]), g) := fun g => if_pos ⟨by omega, by omega, by omega⟩
    rcases hw with rfl | rfl <;> simp_arith [F_shared, Sm.w, Sm.op, h0, dm]
theorem c_moved (n : Nat) (w : Sm) (hw : w = .up ∨ w = .down) (a b : Int) (h : Hm) (ha : U a) (hb : U b) : callF PR (n + 1) "moved" [.str (Str.ofString w.w), .int a, .int b] h = some (.ok (.int (w.op a b)), h) := by
  rw [callF_eq fn_moved rfl]
  obtain ⟨a0, a1⟩ := ha
  obtain ⟨b0, b1⟩ := hb
  by_cases h0 : 64 ≤ b
  · rcases hw with rfl | rfl <;> simp_arith [F_moved, Sm.w, Sm.op, h0]
  · rcases hw with rfl | rfl <;> simp_arith [F_moved, Sm.w, Sm.op, h0]
theorem c_reckon (n : Nat) (w : Sm) (a b : Int) (h : Hm) (ha : U a) (hb : U b) : callF PR (n + 2) "reckon" [.str (Str.ofString w.w), .int a, .int b] h = some (.ok (.int (w.op a b)), h) := by
  have s1 := c_shared n .over (.inl rfl) a b h ha hb
  have s2 := c_shared n .rest (.inr rfl) a b h ha hb
  have m1 := c_moved n .up (.inl rfl) a b h ha hb
  have m2 := c_moved n .down (.inr rfl) a b h ha hb
  simp only [Sm.w] at s1 s2 m1 m2
  rw [callF_eq fn_reckon rfl]
  obtain ⟨a0, a1⟩ := ha
  obtain ⟨b0, b1⟩ := hb
  cases w with
  | over => simp_arith [F_reckon, Sm.w, s1]
  | rest => simp_arith [F_reckon, Sm.w, s2]
  | up => simp_arith [F_reckon, Sm.w, m1]
  | down => simp_arith [F_reckon, Sm.w, m2]
  | below => by_cases hc : a < b <;> simp_arith [F_reckon, Sm.w, Sm.op, hc]
  | same => by_cases hc : a = b <;> simp_arith [F_reckon, Sm.w, Sm.op, hc]
  | _ => simp_arith [F_reckon, Sm.w, Sm.op]
inductive Rk where
  | push (v : Int) | drop | copy (k : Nat) | swap (k : Nat) | sum (w : Sm) | jump (k : Nat) | jumpif (k : Nat)
  | load | save | me | from_ | sent | word | coin | note | call | borrow | look | give | fail
def Rk.w : Rk → String
  | .push _ => "push" | .drop => "drop" | .copy _ => "copy" | .swap _ => "swap" | .sum w => w.w | .jump _ => "jump" | .jumpif _ => "jumpif"
  | .load => "load" | .save => "save" | .me => "me" | .from_ => "from" | .sent => "sent" | .word => "word" | .coin => "coin" | .note => "note" | .call => "call" | .borrow => "borrow" | .look => "look" | .give => "give" | .fail => "fail"
def Rk.v : Rk → Option Int
  | .push v => some v | .copy k => some k | .swap k => some k | .jump k => some k | .jumpif k => some k | _ => none
def Rk.D (r : Rk) : D := match r.v with
  | some v => .tup [.str (Str.ofString r.w), .int v]
  | none => .tup [.str (Str.ofString r.w)]
def Rk.takes : Rk → Nat
  | .push _ => 0 | .drop => 1 | .copy k => k + 1 | .swap k => k + 1 | .sum _ => 2 | .jump _ => 0 | .jumpif _ => 1
  | .load => 1 | .save => 2 | .me => 0 | .from_ => 0 | .sent => 0 | .word => 0 | .coin => 1 | .note => 1 | .call => 4 | .borrow => 3 | .look => 3 | .give => 1 | .fail => 1
def Rk.leaves : Rk → Nat
  | .push _ => 1 | .drop => 0 | .copy k => k + 2 | .swap k => k + 1 | .sum _ => 1 | .jump _ => 0 | .jumpif _ => 0
  | .load => 1 | .save => 0 | .me => 1 | .from_ => 1 | .sent => 1 | .word => 1 | .coin => 1 | .note => 0 | .call => 2 | .borrow => 2 | .look => 2 | .give => 0 | .fail => 0
def Rk.price (dear : Bool) : Rk → Int
  | .save => if dear then 12 else 5 | .call => if dear then 12 else 8 | .borrow => 6 | .look => 6 | .note => 4 | .load => 3 | .coin => 3
  | .sum .times => 2 | .sum .over => 2 | .sum .rest => 2 | _ => 1
def wds31 : List String := ["push", "drop", "copy", "swap", "add", "minus", "times", "over", "rest", "below", "same", "both", "either", "unlike", "up", "down", "jump", "jumpif", "load", "save", "me", "from", "sent", "word", "coin", "note", "call", "borrow", "look", "give", "fail"]
def wds12 : List String := ["add", "minus", "times", "over", "rest", "below", "same", "both", "either", "unlike", "up", "down"]
def D31 : List D := wds31.map fun s => .str (Str.ofString s)
theorem gl_D31 : PR.glob "WORDS" = some (.tup D31) := gl_WORDS
theorem cut_D31 : cut D31 (some 4) (some 16) = wds12.map fun s => .str (Str.ofString s) := rfl
theorem in_strs (w : String) (ss : List String) : inL (.str (Str.ofString w)) (ss.map fun s => .str (Str.ofString s)) = some (decide (w ∈ ss)) := by
  rw [inL_flat rfl (by simp)]
  congr 1
  rw [Bool.eq_iff_iff, List.any_eq_true, decide_eq_true_eq]
  simp only [List.mem_map]
  constructor
  · rintro ⟨_, ⟨s, hs, rfl⟩, h⟩
    simp at h
    exact h ▸ hs
  · intro h
    exact ⟨_, ⟨w, h, rfl⟩, by simp⟩
theorem c_reckons (n : Nat) (w : String) (h : Hm) : callF PR (n + 1) "reckons" [.str (Str.ofString w)] h = some (.ok (.bl (decide (w ∈ wds12))), h) := by
  rw [callF_eq fn_reckons rfl]
  obtain ⟨Y, hY⟩ : ∃ Y, wds12.map (fun s => D.str (Str.ofString s)) = Y := ⟨_, rfl⟩
  obtain ⟨X, hX⟩ : ∃ X, D31 = X := ⟨_, rfl⟩
  have g := gl_D31
  have c := cut_D31
  have i := in_strs w wds12
  rw [hX] at g c
  rw [hY] at c i
  simp_arith [F_reckons, -gl_WORDS, g, c, -inL_s, i]
def Rk.isSum : Rk → Bool
  | .sum _ => true
  | _ => false
theorem Rk.in12 (r : Rk) : decide (r.w ∈ wds12) = r.isSum := by
  cases r with
  | sum w => cases w <;> decide
  | _ => simp [Rk.w, Rk.isSum, wds12]
theorem c_takes (n : Nat) (r : Rk) (h : Hm) : callF PR (n + 2) "takes" [r.D] h = some (.ok (.int (r.takes : Int)), h) := by
  rw [callF_eq fn_takes rfl]
  have q := c_reckons n r.w h
  rw [r.in12] at q
  cases r with
  | sum w => cases w <;> (simp only [Rk.w, Sm.w, Rk.isSum] at q; simp_arith [F_takes, q, Rk.D, Rk.v, Rk.w, Sm.w, Rk.takes])
  | _ => simp only [Rk.w, Sm.w, Rk.isSum] at q; simp_arith [F_takes, q, Rk.D, Rk.v, Rk.w, Sm.w, Rk.takes]
theorem c_leaves (n : Nat) (r : Rk) (h : Hm) : callF PR (n + 1) "leaves" [r.D] h = some (.ok (.int (r.leaves : Int)), h) := by
  rw [callF_eq fn_leaves rfl]
  cases r with
  | sum w => cases w <;> simp_arith [F_leaves, Rk.D, Rk.v, Rk.w, Sm.w, Rk.leaves]
  | _ => simp_arith [F_leaves, Rk.D, Rk.v, Rk.w, Sm.w, Rk.leaves]
theorem c_price (n : Nat) (r : Rk) (b : Bool) (h : Hm) : callF PR (n + 1) "price" [r.D, .bl b] h = some (.ok (.int (r.price b)), h) := by
  rw [callF_eq fn_price rfl]
  cases r with
  | sum w => cases w <;> simp_arith [F_price, Rk.D, Rk.v, Rk.w, Sm.w, Rk.price]
  | save => cases b <;> simp_arith [F_price, Rk.D, Rk.v, Rk.w, Sm.w, Rk.price]
  | call => cases b <;> simp_arith [F_price, Rk.D, Rk.v, Rk.w, Sm.w, Rk.price]
  | _ => simp_arith [F_price, Rk.D, Rk.v, Rk.w, Sm.w, Rk.price]

--CUT
def kst (kvs : List (L2.Key × D)) (p x : Int) : List (L2.Key × D) := if x ≠ 0 then kput kvs (.inl p) (.int x) else if (kget kvs (.inl p)).isSome = true then kdrop kvs (.inl p) else kvs
def says (kvs : List (L2.Key × D)) (f : Int → Int) : Prop := ∀ k, (kget kvs (.inl k)).getD (.int 0) = .int (f k)
def upd (f : Int → Int) (p x : Int) : Int → Int := fun k => if k = p then x else f k
theorem says_put {kvs : List (L2.Key × D)} {f : Int → Int} (s : says kvs f) (p x : Int) : says (kput kvs (.inl p) (.int x)) (upd f p x) := fun k => by
  rw [kget_kput]
  unfold upd
  by_cases h : k = p
  · rw [if_pos (by rw [h]), if_pos h]; rfl
  · rw [if_neg (fun z => h (by injection z with z; exact z.symm)), if_neg h]; exact s k
theorem says_kst {kvs : List (L2.Key × D)} {f : Int → Int} (s : says kvs f) (p x : Int) : says (kst kvs p x) (upd f p x) := by
  unfold kst
  by_cases hx : x ≠ 0
  · rw [if_pos hx]; exact says_put s p x
  · have h0 : x = 0 := by omega
    subst h0
    rw [if_neg hx]
    intro k
    unfold upd
    by_cases hs : (kget kvs (.inl p)).isSome = true
    · rw [if_pos hs, kget_kdrop]
      by_cases h : k = p
      · rw [if_pos (by rw [h]), if_pos h]; rfl
      · rw [if_neg (fun z => h (by injection z with z; exact z.symm)), if_neg h]; exact s k
    · rw [if_neg hs]
      by_cases h : k = p
      · subst h
        rw [if_pos rfl]
        cases e : kget kvs (.inl k) with
        | none => rfl
        | some v => rw [e] at hs; exact absurd rfl hs
      · rw [if_neg h]; exact s k
def acO (c p : Int) (n : Int) (P S : Nat) : O := .ins "Account" [("coin", .int c), ("purse", .int p), ("count", .int n), ("program", .ref P), ("store", .ref S)]
theorem c_acc_init (n A R : Nat) (c p : Int) (xs : List D) (h : Hm) (lA : A < h.next) (hA : h.get A = some (.ins "Account" [])) (hR : h.get R = some (.lst xs)) (ne : R ≠ A) :
    callF PR (n + 1) "Account.__init__" [.ref A, .int c, .int p, .ref R] h = some (.ok .non, ((h.put A (acO c p 0 h.next (h.next + 1))).new (.lst xs)).new (.dic [])) := by
  rw [callF_eq fn_Account_init rfl]
  simp_arith [F_Account_init, hA, hR, ne, acO]

theorem c_keep (n A P S : Nat) (c p m k x : Int) (kvs : List (L2.Key × D)) (h : Hm) (hA : h.get A = some (acO c p m P S)) (hS : h.get S = some (.dic kvs)) (hl : kvs.length < 1000000) :
    callF PR (n + 1) "Account.keep" [.ref A, .int k, .int x] h = some (.ok .non, h.put S (.dic (kst kvs k x))) := by
  rw [callF_eq fn_Account_keep rfl]
  unfold acO at hA
  unfold kst
  by_cases hx : x = 0
  · subst hx
    cases e : kget kvs (.inl k) with
    | some v => simp_arith [F_Account_keep, hA, hS, e]
    | none =>
      simp_arith [F_Account_keep, hA, hS, e]
      exact (put_self hS).symm
  · simp_arith [F_Account_keep, hA, hS, hx]

def kvD (ps : List (Int × Int)) : List (L2.Key × D) := ps.map fun p => (.inl p.1, .int p.2)
structure Rep (ps : List (Int × Int)) (f : Int → Int) : Prop where
  nd : (ps.map (·.1)).Nodup
  nz : ∀ p ∈ ps, p.2 ≠ 0
  sy : says (kvD ps) f
theorem kvD_get : ∀ (ps : List (Int × Int)) (k : Int), kget (kvD ps) (.inl k) = (ps.find? fun p => decide (p.1 = k)).map fun p => D.int p.2
  | [], k => rfl
  | p :: r, k => by
    show kget ((.inl p.1, .int p.2) :: kvD r) (.inl k) = _
    rw [kget_cons, List.find?_cons]
    by_cases h : p.1 = k
    · simp [h]
    · rw [if_neg (fun z => h (by injection z)), kvD_get r k]
      simp [h]
theorem Rep.mem {ps : List (Int × Int)} {f : Int → Int} (r : Rep ps f) (k : Int) : k ∈ ps.map (·.1) ↔ f k ≠ 0 := by
  have h := r.sy k
  rw [kvD_get] at h
  constructor
  · intro hk
    cases e : ps.find? fun p => decide (p.1 = k) with
    | none =>
      rw [List.find?_eq_none] at e
      obtain ⟨p, hp, rfl⟩ := List.mem_map.mp hk
      exact absurd (by simp) (e p hp)
    | some p =>
      rw [e] at h
      have hp := List.mem_of_find?_eq_some e
      have := r.nz p hp
      simp at h
      rw [← h]; exact this
  · intro hf
    cases e : ps.find? fun p => decide (p.1 = k) with
    | none => rw [e] at h; simp at h; exact absurd h.symm hf
    | some p =>
      have hp := List.mem_of_find?_eq_some e
      have := List.find?_some e
      simp at this
      exact List.mem_map.mpr ⟨p, hp, this⟩
theorem Rep.at_ {ps : List (Int × Int)} {f : Int → Int} (r : Rep ps f) {k : Int} (hk : k ∈ ps.map (·.1)) : kget (kvD ps) (.inl k) = some (.int (f k)) := by
  have h := r.sy k
  cases e : kget (kvD ps) (.inl k) with
  | none => rw [e] at h; simp at h; exact absurd h.symm ((r.mem k).mp hk)
  | some v => rw [e] at h; simpa using h
theorem Rep.nil : Rep [] fun _ => 0 := ⟨List.nodup_nil, fun p hp => (by cases hp), fun _ => rfl⟩
theorem insI_comm (x y : Int) : ∀ l, insI x (insI y l) = insI y (insI x l)
  | [] => by simp only [insI]; split <;> split <;> first | rfl | (have : x = y := by omega); (try subst this); (try rfl) | (exfalso; omega)
  | z :: l => by
    have ih := insI_comm x y l
    simp only [insI]
    by_cases h1 : y ≤ z <;> by_cases h2 : x ≤ z
    · rw [if_pos h1, if_pos h2]; simp only [insI]
      by_cases h3 : x ≤ y <;> by_cases h4 : y ≤ x
      · have : x = y := by omega
        subst this; rfl
      · rw [if_pos h3, if_neg h4, if_pos h1]
      · rw [if_neg h3, if_pos h2, if_pos h4]
      · exfalso; omega
    · rw [if_pos h1, if_neg h2]; simp only [insI]
      rw [if_neg (by omega), if_neg h2, if_pos h1]
    · rw [if_neg h1, if_pos h2]; simp only [insI]
      rw [if_pos h2, if_neg (by omega), if_neg h1]
    · rw [if_neg h1, if_neg h2]; simp only [insI]
      rw [if_neg h1, if_neg h2, ih]
theorem srt_perm {l l' : List Int} (p : l.Perm l') : srt l = srt l' := by
  induction p with
  | nil => rfl
  | cons x _ ih => simp only [srt, ih]
  | swap x y l => simp only [srt]; exact insI_comm y x (srt l)
  | trans _ _ i1 i2 => exact i1.trans i2
theorem Rep.uniq {ps qs : List (Int × Int)} {f : Int → Int} (a : Rep ps f) (b : Rep qs f) : srt (ps.map (·.1)) = srt (qs.map (·.1)) ∧ ps.length = qs.length := by
  have p : (ps.map (·.1)).Perm (qs.map (·.1)) := (List.perm_ext_iff_of_nodup a.nd b.nd).mpr fun k => (a.mem k).trans (b.mem k).symm
  refine ⟨srt_perm p, ?_⟩
  have := p.length_eq
  simpa using this
theorem kst_rep {ps : List (Int × Int)} {f : Int → Int} (r : Rep ps f) (p x : Int) : ∃ qs, kst (kvD ps) p x = kvD qs ∧ Rep qs (upd f p x) ∧ qs.length ≤ ps.length + 1 := by
  have s := says_kst r.sy p x
  by_cases hx : x = 0
  · subst hx
    have e : kst (kvD ps) p 0 = if (kget (kvD ps) (.inl p)).isSome = true then kdrop (kvD ps) (.inl p) else kvD ps := by unfold kst; rw [if_neg (by simp)]
    by_cases hs : (kget (kvD ps) (.inl p)).isSome = true
    · rw [if_pos hs] at e
      have e2 : kdrop (kvD ps) (.inl p) = kvD (ps.filter fun q => decide (q.1 ≠ p)) := by
        unfold kdrop kvD
        rw [List.filter_map]
        congr 1
        apply List.filter_congr
        intro q _
        simp
      rw [e2] at e
      refine ⟨_, e, ⟨?_, fun q hq => r.nz q (List.mem_filter.mp hq).1, by rw [← e]; exact s⟩, Nat.le_succ_of_le (List.length_filter_le ..)⟩
      exact r.nd.sublist (List.filter_sublist.map _)
    · rw [if_neg hs] at e
      exact ⟨ps, e, ⟨r.nd, r.nz, by rw [← e]; exact s⟩, Nat.le_succ _⟩
  · have e : kst (kvD ps) p x = kput (kvD ps) (.inl p) (.int x) := by unfold kst; rw [if_pos hx]
    unfold kput at e
    by_cases ha : ((kvD ps).any fun kv => decide (kv.1 = .inl p)) = true
    · rw [if_pos ha] at e
      have e2 : (kvD ps).map (fun kv => if kv.1 = .inl p then (kv.1, D.int x) else kv) = kvD (ps.map fun q => if q.1 = p then (q.1, x) else q) := by
        unfold kvD
        rw [List.map_map, List.map_map]
        apply List.map_congr_left
        intro q _
        simp only [Function.comp]
        by_cases h : q.1 = p
        · simp [h]
        · rw [if_neg (fun z => h (by injection z)), if_neg h]
      rw [e2] at e
      refine ⟨_, e, ⟨?_, fun q hq => ?_, by rw [← e]; exact s⟩, by simp⟩
      · have : (ps.map fun q => if q.1 = p then (q.1, x) else q).map (·.1) = ps.map (·.1) := by
          rw [List.map_map]
          apply List.map_congr_left
          intro q _
          simp only [Function.comp]
          split <;> rfl
        rw [this]; exact r.nd
      · obtain ⟨q0, h0, rfl⟩ := List.mem_map.mp hq
        split
        · exact hx
        · exact r.nz q0 h0
    · rw [if_neg ha] at e
      have e2 : kvD ps ++ [(.inl p, D.int x)] = kvD (ps ++ [(p, x)]) := by unfold kvD; rw [List.map_append]; rfl
      rw [e2] at e
      have hp : p ∉ ps.map (·.1) := by
        intro h
        obtain ⟨q, hq, hq2⟩ := List.mem_map.mp h
        apply ha
        rw [List.any_eq_true]
        exact ⟨(.inl q.1, .int q.2), List.mem_map.mpr ⟨q, hq, rfl⟩, by simp [hq2]⟩
      refine ⟨_, e, ⟨?_, fun q hq => ?_, by rw [← e]; exact s⟩, by simp⟩
      · rw [List.map_append, List.nodup_append]
        refine ⟨r.nd, by simp, ?_⟩
        intro a ha2 b hb
        simp at hb
        subst hb
        exact fun z => hp (z ▸ ha2)
      · rcases List.mem_append.mp hq with h | h
        · exact r.nz q h
        · simp at h; rw [h]; exact hx

def updI {α : Type} (f : Int → α) (i : Int) (x : α) : Int → α := fun k => if k = i then x else f k
structure S where
  c : Int → Int
  f : Int → Int → Int
inductive Dd where
  | move (i j : Int) (m : Int)
  | save (i : Int) (p o x : Int)
  | note (i : Int) (x : Int)
def Dd.run : Dd → S → S
  | .move i j m, s => ⟨updI (updI s.c i (s.c i - m)) j (updI s.c i (s.c i - m) j + m), s.f⟩
  | .save i p _ x, s => ⟨s.c, updI s.f i (upd (s.f i) p x)⟩
  | .note _ _, s => s
def Dd.back : Dd → S → S
  | .move i j m, s => ⟨updI (updI s.c j (s.c j - m)) i (updI s.c j (s.c j - m) i + m), s.f⟩
  | .save i p o _, s => ⟨s.c, updI s.f i (upd (s.f i) p o)⟩
  | .note _ _, s => s
structure Lay where
  on : Int → Bool
  ad : Int → Nat
  st : Int → Nat
  pr : Int → Nat
  pu : Int → Int
  cn : Int → Int
  rows : Int → List Rk
  RM : Nat
  J : Nat
  K : Nat
  B : Nat
structure Lay.Ok (L : Lay) : Prop where
  sm : ∀ i, L.on i = true → 0 ≤ i ∧ i < 16
  aa : ∀ i j, L.on i = true → L.on j = true → L.ad i = L.ad j → i = j
  ss : ∀ i j, L.on i = true → L.on j = true → L.st i = L.st j → i = j
  as_ : ∀ i j, L.on i = true → L.on j = true → L.ad i ≠ L.st j
  ap : ∀ i j, L.on i = true → L.on j = true → L.ad i ≠ L.pr j
  sp : ∀ i j, L.on i = true → L.on j = true → L.st i ≠ L.pr j
  ot : ∀ i, L.on i = true → L.RM ≠ L.ad i ∧ L.RM ≠ L.st i ∧ L.J ≠ L.ad i ∧ L.J ≠ L.st i ∧ L.K ≠ L.ad i ∧ L.K ≠ L.st i ∧ L.K ≠ L.pr i ∧ L.ad i < L.B ∧ L.st i < L.B ∧ L.pr i < L.B
  kk : L.K ≠ L.RM ∧ L.K ≠ L.J ∧ L.RM < L.B ∧ L.J < L.B ∧ L.K < L.B
def Dd.fit (L : Lay) (s : S) : Dd → Prop
  | .move i j m => L.on i = true ∧ L.on j = true ∧ 0 ≤ m ∧ m ≤ s.c i
  | .save i p o _ => L.on i = true ∧ s.f i p = o
  | .note i _ => L.on i = true
def Dd.ok (L : Lay) : Dd → Prop
  | .move i j _ => L.on i = true ∧ L.on j = true
  | .save i _ _ _ => L.on i = true
  | .note i _ => L.on i = true
theorem Dd.back_run (L : Lay) (d : Dd) (s : S) (h : d.fit L s) : d.back (d.run s) = s := by
  cases d with
  | move i j m =>
    unfold Dd.back Dd.run
    dsimp only
    have : updI (updI (updI (updI s.c i (s.c i - m)) j (updI s.c i (s.c i - m) j + m)) j (updI (updI s.c i (s.c i - m)) j (updI s.c i (s.c i - m) j + m) j - m)) i (updI (updI (updI s.c i (s.c i - m)) j (updI s.c i (s.c i - m) j + m)) j (updI (updI s.c i (s.c i - m)) j (updI s.c i (s.c i - m) j + m) j - m) i + m) = s.c := by
      funext k
      unfold updI
      by_cases h1 : k = i
      · subst h1
        by_cases h2 : k = j
        · subst h2; simp; try omega
        · simp [h2]; try omega
      · by_cases h2 : k = j
        · subst h2; simp [h1]; try omega
        · simp [h1, h2]
    rw [this]
  | save i p o x =>
    unfold Dd.back Dd.run
    dsimp only
    have : updI (updI s.f i (upd (s.f i) p x)) i (upd (updI s.f i (upd (s.f i) p x) i) p o) = s.f := by
      funext k
      unfold updI
      by_cases h1 : k = i
      · subst h1
        rw [if_pos rfl, if_pos rfl]
        funext q
        unfold upd
        by_cases hq : q = p
        · rw [if_pos hq, hq]; exact h.2.symm
        · rw [if_neg hq, if_neg hq]
      · rw [if_neg h1, if_neg h1]
    rw [this]
  | note i x => rfl
def Sml (m : Nat) (s : S) : Prop := ∀ i, ∃ ps, Rep ps (s.f i) ∧ ps.length ≤ m
theorem Sml.run {m : Nat} {s : S} (h : Sml m s) (d : Dd) : Sml (m + 1) (d.run s) := by
  intro k
  obtain ⟨ps, r, l⟩ := h k
  cases d with
  | move i j q => exact ⟨ps, r, by omega⟩
  | note i q => exact ⟨ps, r, by omega⟩
  | save i p o x =>
    show ∃ ps, Rep ps (updI s.f i (upd (s.f i) p x) k) ∧ _
    unfold updI
    by_cases hk : k = i
    · subst hk
      rw [if_pos rfl]
      obtain ⟨qs, _, r2, l2⟩ := kst_rep r p x
      exact ⟨qs, r2, by omega⟩
    · rw [if_neg hk]; exact ⟨ps, r, by omega⟩
theorem Sml.le {m m' : Nat} {s : S} (h : Sml m s) (l : m ≤ m') : Sml m' s := fun i => by obtain ⟨ps, r, l2⟩ := h i; exact ⟨ps, r, by omega⟩
inductive Way (L : Lay) (s0 : S) : List Dd → S → Prop
  | nil : Way L s0 [] s0
  | snoc {ds : List Dd} {s : S} {d : Dd} : Way L s0 ds s → d.fit L s → Way L s0 (ds ++ [d]) (d.run s)
theorem Way.last {L : Lay} {s0 s : S} {ds : List Dd} {d : Dd} (w : Way L s0 (ds ++ [d]) s) : Way L s0 ds (d.back s) ∧ ∃ t, d.fit L t := by
  generalize hx : ds ++ [d] = xs at w
  cases w with
  | nil => simp at hx
  | snoc w f =>
    obtain ⟨h1, h2⟩ := List.append_inj' hx rfl
    simp only [List.cons.injEq, and_true] at h2
    subst h1; subst h2
    rw [Dd.back_run L _ _ f]
    exact ⟨w, _, f⟩
theorem Way.none {L : Lay} {s0 s : S} (w : Way L s0 [] s) : s = s0 := by
  generalize hx : ([] : List Dd) = xs at w
  cases w with
  | nil => rfl
  | snoc w f => simp at hx
theorem Way.trans {L : Lay} {s0 s1 s2 : S} {xs ys : List Dd} (a : Way L s0 xs s1) (b : Way L s1 ys s2) : Way L s0 (xs ++ ys) s2 := by
  induction b with
  | nil => rw [List.append_nil]; exact a
  | snoc w f ih => rw [← List.append_assoc]; exact ih.snoc f
theorem Way.small {L : Lay} {m : Nat} {s0 s : S} {ds : List Dd} (w : Way L s0 ds s) (h : Sml m s0) : Sml (m + ds.length) s := by
  induction w with
  | nil => exact h
  | snoc w f ih => rw [List.length_append]; exact (ih.run _).le (by simp; omega)
def Lay.aco (L : Lay) (s : S) (i : Int) : O := acO (s.c i) (L.pu i) (L.cn i) (L.pr i) (L.st i)
def Lay.rm (L : Lay) : List D := (List.range 16).map fun (i : Nat) => if L.on (i : Int) = true then D.ref (L.ad (i : Int)) else D.non
theorem Lay.rm_on {L : Lay} (hL : L.Ok) {i : Int} (h : L.on i = true) : atD L.rm i = some (.ref (L.ad i)) := by
  obtain ⟨h0, h1⟩ := hL.sm i h
  obtain ⟨k, rfl⟩ := Int.eq_ofNat_of_zero_le h0
  rw [atD_nat, Lay.rm, List.getElem?_map, List.getElem?_range (by omega), Option.map_some, if_pos h]
theorem Lay.rm_off {L : Lay} {i : Int} (h0 : 0 ≤ i) (h1 : i < 16) (h : L.on i = false) : atD L.rm i = some .non := by
  obtain ⟨k, rfl⟩ := Int.eq_ofNat_of_zero_le h0
  rw [atD_nat, Lay.rm, List.getElem?_map, List.getElem?_range (by omega), Option.map_some, h, if_neg (by simp)]
theorem Lay.rm_len (L : Lay) : L.rm.length = 16 := by unfold Lay.rm; rw [List.length_map]; rfl
structure HR (L : Lay) (s : S) (h : Hm) : Prop where
  rm : h.get L.RM = some (.lst L.rm)
  ac : ∀ i, L.on i = true → h.get (L.ad i) = some (L.aco s i)
  pg : ∀ i, L.on i = true → h.get (L.pr i) = some (.lst ((L.rows i).map Rk.D))
  so : ∀ i, L.on i = true → ∃ ps, h.get (L.st i) = some (.dic (kvD ps)) ∧ Rep ps (s.f i)
def Lay.Sh (L : Lay) (b : Nat) : Prop := ∃ i, L.on i = true ∧ (b = L.ad i ∨ b = L.st i)
def Off (L : Lay) (h h' : Hm) : Prop := ∀ b, ¬ L.Sh b → h'.get b = h.get b
section
variable {L : Lay} {s : S} {h h' : Hm}
theorem Lay.nRM (hL : L.Ok) : ¬ L.Sh L.RM := by rintro ⟨i, hi, e | e⟩ <;> have := hL.ot i hi <;> omega
theorem Lay.nJ (hL : L.Ok) : ¬ L.Sh L.J := by rintro ⟨i, hi, e | e⟩ <;> have := hL.ot i hi <;> omega
theorem Lay.nK (hL : L.Ok) : ¬ L.Sh L.K := by rintro ⟨i, hi, e | e⟩ <;> have := hL.ot i hi <;> omega
theorem Lay.nP (hL : L.Ok) {i : Int} (hi : L.on i = true) : ¬ L.Sh (L.pr i) := by
  rintro ⟨j, hj, e | e⟩
  · exact hL.ap j i hj hi e.symm
  · exact hL.sp j i hj hi e.symm
theorem Lay.ShB (hL : L.Ok) {b : Nat} (x : L.Sh b) : b < L.B := by obtain ⟨i, hi, e | e⟩ := x <;> have := hL.ot i hi <;> omega
theorem HR.fr (x : HR L s h) (hL : L.Ok) (f : ∀ b, b < L.B → b ≠ L.K → h'.get b = h.get b) : HR L s h' := by
  have kk := hL.kk
  refine ⟨(f _ (by omega) (by omega)).trans x.rm, fun i hi => ?_, fun i hi => ?_, fun i hi => ?_⟩
  · have o := hL.ot i hi; exact (f _ (by omega) (by omega)).trans (x.ac i hi)
  · have o := hL.ot i hi; exact (f _ (by omega) (by omega)).trans (x.pg i hi)
  · have o := hL.ot i hi
    obtain ⟨ps, e, r⟩ := x.so i hi
    exact ⟨ps, (f _ (by omega) (by omega)).trans e, r⟩
theorem HR.to {s' : S} (x : HR L s h) (hL : L.Ok) (o : Off L h h') (ac : ∀ i, L.on i = true → h'.get (L.ad i) = some (L.aco s' i)) (so : ∀ i, L.on i = true → ∃ ps, h'.get (L.st i) = some (.dic (kvD ps)) ∧ Rep ps (s'.f i)) : HR L s' h' :=
  ⟨(o _ (Lay.nRM hL)).trans x.rm, ac, fun i hi => (o _ (Lay.nP hL hi)).trans (x.pg i hi), so⟩
end
def objD : Dd → O
  | .move i j m => .ins "Move" [("slot", .int i), ("taker", .int j), ("many", .int m)]
  | .save i p o x => .ins "Save" [("slot", .int i), ("spot", .int p), ("old", .int o), ("new", .int x)]
  | .note i x => .ins "Note" [("slot", .int i), ("number", .int x)]
def Dd.doN : Dd → String
  | .move .. => "Move.do"
  | .save .. => "Save.do"
  | .note .. => "Note.do"
def Dd.unN : Dd → String
  | .move .. => "Move.undo"
  | .save .. => "Save.undo"
  | .note .. => "Note.undo"
section
variable {L : Lay} {s : S} {h : Hm}
theorem c_carry (m : Nat) (i j : Int) (q : Int) (x : HR L s h) (hL : L.Ok) (hi : L.on i = true) (hj : L.on j = true) :
    ∃ g, callF PR (m + 1) "carry" [.ref L.RM, .int i, .int j, .int q] h = some (.ok .non, g) ∧ HR L ⟨updI (updI s.c i (s.c i - q)) j (updI s.c i (s.c i - q) j + q), s.f⟩ g ∧ g.next = h.next ∧ Off L h g := by
  rw [callF_eq fn_carry rfl]
  have r1 := x.rm
  have ri := Lay.rm_on hL hi
  have rj := Lay.rm_on hL hj
  have ai := x.ac i hi
  have aj := x.ac j hj
  unfold Lay.aco acO at ai aj
  have nRi : ¬ L.RM = L.ad i := (hL.ot i hi).1
  by_cases hij : i = j
  · subst hij
    simp_arith! [F_carry, r1, ri, ai, nRi]
    refine ⟨x.to hL ?_ ?_ ?_, ?_⟩
    · intro b hb
      rw [put_get_ne (fun e => hb ⟨i, hi, .inl e⟩)]
    · intro k hk
      by_cases hki : k = i
      · subst hki
        rw [put_get, if_pos rfl]
        simp [Lay.aco, acO, updI]
      · rw [put_get_ne (fun e => hki (hL.aa k i hk hi e)), x.ac k hk]
        simp [Lay.aco, acO, updI, hki]
    · intro k hk
      rw [put_get_ne (fun e => hL.as_ i k hi hk e.symm)]; exact x.so k hk
    · intro b hb
      rw [put_get_ne (fun e => hb ⟨i, hi, .inl e⟩)]
  · have ne1 : L.ad i ≠ L.ad j := fun e => hij (hL.aa i j hi hj e)
    have ne2 : L.ad j ≠ L.ad i := fun e => ne1 e.symm
    have hji : j ≠ i := fun z => hij z.symm
    simp_arith! [F_carry, r1, ri, rj, ai, aj, ne1, ne2, nRi]
    refine ⟨x.to hL ?_ ?_ ?_, ?_⟩
    · intro b hb
      rw [put_get_ne (fun e => hb ⟨j, hj, .inl e⟩), put_get_ne (fun e => hb ⟨i, hi, .inl e⟩)]
    · intro k hk
      by_cases hkj : k = j
      · subst hkj
        rw [put_get, if_pos rfl]
        simp [Lay.aco, acO, updI, hji]
      · rw [put_get_ne (fun e => hkj (hL.aa k j hk hj e))]
        by_cases hki : k = i
        · subst hki
          rw [put_get, if_pos rfl]
          simp [Lay.aco, acO, updI, hkj]
        · rw [put_get_ne (fun e => hki (hL.aa k i hk hi e)), x.ac k hk]
          simp [Lay.aco, acO, updI, hki, hkj]
    · intro k hk
      rw [put_get_ne (fun e => hL.as_ j k hj hk e.symm), put_get_ne (fun e => hL.as_ i k hi hk e.symm)]; exact x.so k hk
    · intro b hb
      rw [put_get_ne (fun e => hb ⟨j, hj, .inl e⟩), put_get_ne (fun e => hb ⟨i, hi, .inl e⟩)]
theorem c_loaded (m : Nat) (i p : Int) (x : HR L s h) (hi : L.on i = true) : callF PR (m + 1) "Account.loaded" [.ref (L.ad i), .int p] h = some (.ok (.int (s.f i p)), h) := by
  rw [callF_eq fn_Account_loaded rfl]
  have ai := x.ac i hi
  obtain ⟨ps, e, r⟩ := x.so i hi
  have sy := r.sy p
  unfold Lay.aco acO at ai
  simp_arith! [F_Account_loaded, ai, e, sy]
theorem c_keepP (m : Nat) (i p q : Int) (b : Nat) (hb : b < 900000) (x : HR L s h) (hL : L.Ok) (hi : L.on i = true) (hs : Sml b s) :
    ∃ g, callF PR (m + 1) "Account.keep" [.ref (L.ad i), .int p, .int q] h = some (.ok .non, g) ∧ HR L ⟨s.c, updI s.f i (upd (s.f i) p q)⟩ g ∧ g.next = h.next ∧ Off L h g := by
  obtain ⟨ps, e1, r⟩ := x.so i hi
  obtain ⟨ps', r', l'⟩ := hs i
  have leq := (r.uniq r').2
  obtain ⟨qs, e2, r2, l2⟩ := kst_rep r p q
  have e := c_keep m (L.ad i) (L.pr i) (L.st i) (s.c i) (L.pu i) (L.cn i) p q (kvD ps) h (x.ac i hi) e1 (by simp [kvD]; omega)
  rw [e2] at e
  refine ⟨_, e, x.to hL ?_ ?_ ?_, rfl, ?_⟩
  · intro b hb
    rw [put_get_ne (fun e => hb ⟨i, hi, .inr e⟩)]
  · intro k hk
    rw [put_get_ne (fun e => hL.as_ k i hk hi e), x.ac k hk]
    rfl
  · intro k hk
    by_cases hki : k = i
    · subst hki
      exact ⟨qs, by rw [put_get, if_pos rfl], by simpa [updI] using r2⟩
    · rw [put_get_ne (fun e => hki (hL.ss k i hk hi e))]
      obtain ⟨ps3, e3, r3⟩ := x.so k hk
      exact ⟨ps3, e3, by simpa [updI, hki] using r3⟩
  · intro b hb
    rw [put_get_ne (fun e => hb ⟨i, hi, .inr e⟩)]
theorem c_do (m a b : Nat) (d : Dd) (x : HR L s h) (hL : L.Ok) (ho : h.get a = some (objD d)) (hd : d.ok L) (hb : b < 900000) (hs : Sml b s) :
    ∃ g, callF PR (m + 2) d.doN [.ref a, .ref L.RM] h = some (.ok .non, g) ∧ HR L (d.run s) g ∧ g.next = h.next ∧ Off L h g := by
  cases d with
  | move i j q =>
    obtain ⟨g, e, r⟩ := c_carry m i j q x hL hd.1 hd.2
    refine ⟨g, ?_, r⟩
    show callF PR (m + 2) "Move.do" _ h = _
    rw [callF_eq fn_Move_do rfl]
    unfold objD at ho
    simp_arith! [F_Move_do, ho, e]
  | save i p o q =>
    obtain ⟨g, e, r⟩ := c_keepP m i p q b hb x hL hd hs
    refine ⟨g, ?_, r⟩
    show callF PR (m + 2) "Save.do" _ h = _
    rw [callF_eq fn_Save_do rfl]
    have r1 := x.rm
    have ri := Lay.rm_on hL hd
    have ai := x.ac i hd
    unfold Lay.aco acO at ai
    unfold objD at ho
    simp_arith! [F_Save_do, ho, r1, ri, ai, e]
  | note i q =>
    refine ⟨h, ?_, x, rfl, fun _ _ => rfl⟩
    show callF PR (m + 2) "Note.do" _ h = _
    rw [callF_eq fn_Note_do rfl]
    simp_arith! [F_Note_do]
theorem c_undo (m a b : Nat) (d : Dd) (x : HR L s h) (hL : L.Ok) (ho : h.get a = some (objD d)) (hd : d.ok L) (hb : b < 900000) (hs : Sml b s) :
    ∃ g, callF PR (m + 2) d.unN [.ref a, .ref L.RM] h = some (.ok .non, g) ∧ HR L (d.back s) g ∧ g.next = h.next ∧ Off L h g := by
  cases d with
  | move i j q =>
    obtain ⟨g, e, r⟩ := c_carry m j i q x hL hd.2 hd.1
    refine ⟨g, ?_, r⟩
    show callF PR (m + 2) "Move.undo" _ h = _
    rw [callF_eq fn_Move_undo rfl]
    unfold objD at ho
    simp_arith! [F_Move_undo, ho, e]
  | save i p o q =>
    obtain ⟨g, e, r⟩ := c_keepP m i p o b hb x hL hd hs
    refine ⟨g, ?_, r⟩
    show callF PR (m + 2) "Save.undo" _ h = _
    rw [callF_eq fn_Save_undo rfl]
    have r1 := x.rm
    have ri := Lay.rm_on hL hd
    have ai := x.ac i hd
    unfold Lay.aco acO at ai
    unfold objD at ho
    simp_arith! [F_Save_undo, ho, r1, ri, ai, e]
  | note i q =>
    refine ⟨h, ?_, x, rfl, fun _ _ => rfl⟩
    show callF PR (m + 2) "Note.undo" _ h = _
    rw [callF_eq fn_Note_undo rfl]
    simp_arith! [F_Note_undo]
def tellD : Dd → D
  | .move i j m => .tup [.str (Str.ofString "move"), .int i, .int j, .int m]
  | .save i p o x => .tup [.str (Str.ofString "save"), .int i, .int p, .int o, .int x]
  | .note i x => .tup [.str (Str.ofString "note"), .int i, .int x]
def Dd.teN : Dd → String
  | .move .. => "Move.told"
  | .save .. => "Save.told"
  | .note .. => "Note.told"
theorem c_tellm (m a : Nat) (d : Dd) (h : Hm) (ho : h.get a = some (objD d)) : callF PR (m + 1) d.teN [.ref a] h = some (.ok (tellD d), h) := by
  cases d with
  | move i j q =>
    show callF PR (m + 1) "Move.told" _ h = _
    rw [callF_eq fn_Move_told rfl]
    unfold objD at ho
    simp_arith! [F_Move_told, ho, tellD]
  | save i p o q =>
    show callF PR (m + 1) "Save.told" _ h = _
    rw [callF_eq fn_Save_told rfl]
    unfold objD at ho
    simp_arith! [F_Save_told, ho, tellD]
  | note i q =>
    show callF PR (m + 1) "Note.told" _ h = _
    rw [callF_eq fn_Note_told rfl]
    unfold objD at ho
    simp_arith! [F_Note_told, ho, tellD]
end

structure Jn (L : Lay) (as : List (Nat × Dd)) (s : S) (h : Hm) : Prop where
  hr : HR L s h
  jo : h.get L.J = some (.ins "Journal" [("rooms", .ref L.RM), ("kept", .ref L.K)])
  kp : h.get L.K = some (.lst (as.map fun x => D.ref x.1))
  ob : ∀ x ∈ as, L.B ≤ x.1 ∧ x.1 < h.next ∧ h.get x.1 = some (objD x.2) ∧ x.2.ok L
  nx : L.B ≤ h.next
def OffK (L : Lay) (h h' : Hm) : Prop := ∀ b, ¬ L.Sh b → b ≠ L.K → h'.get b = h.get b
section
variable {L : Lay} {s : S} {h : Hm} {as : List (Nat × Dd)}
theorem Jn.keep {h' : Hm} (x : Jn L as s h) (hL : L.Ok) (le : h.next ≤ h'.next) (f : ∀ b, b < L.B → h'.get b = h.get b) (f2 : ∀ y ∈ as, h'.get y.1 = h.get y.1) : Jn L as s h' := by
  have kk := hL.kk
  have nx := x.nx
  refine ⟨x.hr.fr hL (fun b hb _ => f b hb), (f _ (by omega)).trans x.jo, (f _ (by omega)).trans x.kp, fun y hy => ?_, by omega⟩
  obtain ⟨a1, a2, a3, a4⟩ := x.ob y hy
  exact ⟨a1, by omega, (f2 y hy).trans a3, a4⟩
theorem Jn.gro {h' : Hm} (x : Jn L as s h) (hL : L.Ok) (g : Gro h h') : Jn L as s h' :=
  x.keep hL g.le (fun b hb => g.at_ b (by have := x.nx; omega)) (fun y hy => g.at_ _ (x.ob y hy).2.1)
theorem Jn.step {h1 : Hm} {s' : S} {bs : List (Nat × Dd)} (x : Jn L as s h) (hL : L.Ok) (H : HR L s' h1) (nx : h1.next = h.next) (fr : OffK L h h1)
    (kp : h1.get L.K = some (.lst (bs.map fun x => D.ref x.1))) (ob : ∀ x ∈ bs, L.B ≤ x.1 ∧ x.1 < h.next ∧ h.get x.1 = some (objD x.2) ∧ x.2.ok L) : Jn L bs s' h1 := by
  have hn := x.nx
  have kk := hL.kk
  refine ⟨H, (fr _ (Lay.nJ hL) (by omega)).trans x.jo, kp, fun y hy => ?_, by omega⟩
  obtain ⟨a1, a2, a3, a4⟩ := ob y hy
  exact ⟨a1, by omega, (fr _ (fun z => by have := Lay.ShB hL z; omega) (by omega)).trans a3, a4⟩
theorem c_write (m a b : Nat) (d : Dd) (x : Jn L as s h) (hL : L.Ok) (la : L.B ≤ a) (lh : a < h.next) (ho : h.get a = some (objD d)) (hd : d.ok L) (hl : as.length < 900000) (hb : b < 900000) (hs : Sml b s) :
    ∃ g, callF PR (m + 3) "Journal.write" [.ref L.J, .ref a] h = some (.ok .non, g) ∧ Jn L (as ++ [(a, d)]) (d.run s) g ∧ g.next = h.next ∧ OffK L h g := by
  have kk := hL.kk
  obtain ⟨g1, e1, H1, n1, f1⟩ := c_do m a b d x.hr hL ho hd hb hs
  have jo := x.jo
  have j1 := (f1 L.J (Lay.nJ hL)).trans jo
  have k1 := (f1 L.K (Lay.nK hL)).trans x.kp
  have hl' : (as.map fun x => D.ref x.1).length < 1000000 := by rw [List.length_map]; omega
  refine ⟨g1.put L.K (.lst ((as.map fun x => D.ref x.1) ++ [.ref a])), ?_, ?_, n1, fun b hb hn => ?_⟩
  · rw [callF_eq fn_Journal_write rfl]
    cases d with
    | move i j q =>
      unfold objD at ho
      simp only [Dd.doN] at e1
      simp_arith! [F_Journal_write, jo, ho, e1, j1, k1, hl']
    | save i p o q =>
      unfold objD at ho
      simp only [Dd.doN] at e1
      simp_arith! [F_Journal_write, jo, ho, e1, j1, k1, hl']
    | note i q =>
      unfold objD at ho
      simp only [Dd.doN] at e1
      simp_arith! [F_Journal_write, jo, ho, e1, j1, k1, hl']
  · refine x.step hL (H1.fr hL (fun b hb hn => by rw [put_get_ne hn])) n1 (fun b hb hn => by rw [put_get_ne hn]; exact f1 b hb) (by rw [put_get, if_pos rfl, List.map_append]; rfl) (fun y hy => ?_)
    rcases List.mem_append.mp hy with hy | hy
    · exact x.ob y hy
    · rw [List.mem_singleton.mp hy]; exact ⟨la, lh, ho, hd⟩
  · rw [put_get_ne hn]; exact f1 b hb
theorem c_mark (m : Nat) (x : Jn L as s h) : callF PR (m + 1) "Journal.mark" [.ref L.J] h = some (.ok (.int as.length), h) := by
  rw [callF_eq fn_Journal_mark rfl]
  have jo := x.jo
  have kp := x.kp
  simp_arith! [F_Journal_mark, jo, kp]
theorem last_cases {α : Type} (xs : List α) (h : xs ≠ []) : ∃ ys y, xs = ys ++ [y] := ⟨xs.dropLast, xs.getLast h, (List.dropLast_concat_getLast h).symm⟩
theorem c_back (m b : Nat) (s0 : S) (bs cs : List (Nat × Dd)) (x : Jn L (bs ++ cs) s h) (hL : L.Ok) (w : Way L s0 (cs.map (·.2)) s) (z0 : Sml b s0) (hb : b + cs.length < 900000) :
    ∃ g, callF PR (m + 3) "Journal.back" [.ref L.J, .int (bs.length : Int)] h = some (.ok .non, g) ∧ Jn L bs s0 g ∧ g.next = h.next ∧ OffK L h g := by
  rw [callF_eq fn_Journal_back rfl]
  have kk := hL.kk
  have loop : ∃ env' g, whl (fun e1 h1 => evT PR (callF PR (m + 2)) (.cmp .gt (.bi .len (.cons (.att (.var 0) "kept") (.nil))) (.var 1)) e1 h1) (fun e1 h1 => ex PR (callF PR (m + 2)) (.seq (.asg 2 (.bm .pop (.att (.var 0) "kept") (.nil))) (.drop (.meth (.var 2) "undo" (.cons (.att (.var 0) "rooms") (.nil)) []))) e1 h1) 1000000 [some (D.ref L.J), some (.int (bs.length : Int)), none] h = some (.nx, env', g) ∧ ∃ v2, env' = [some (D.ref L.J), some (.int (bs.length : Int)), v2] ∧ Jn L bs s0 g ∧ g.next = h.next ∧ OffK L h g := by
    obtain ⟨env', g, e1, v2, cs', s', rfl, J, W, l, n1, fr⟩ := whl_inv (ft := fun e1 h1 => evT PR (callF PR (m + 2)) (.cmp .gt (.bi .len (.cons (.att (.var 0) "kept") (.nil))) (.var 1)) e1 h1) (fb := fun e1 h1 => ex PR (callF PR (m + 2)) (.seq (.asg 2 (.bm .pop (.att (.var 0) "kept") (.nil))) (.drop (.meth (.var 2) "undo" (.cons (.att (.var 0) "rooms") (.nil)) []))) e1 h1) (fun j env g => ∃ v2 cs' s', env = [some (D.ref L.J), some (.int (bs.length : Int)), v2] ∧ Jn L (bs ++ cs') s' g ∧ Way L s0 (cs'.map (·.2)) s' ∧ cs'.length = cs.length - j ∧ g.next = h.next ∧ OffK L h g) cs.length (by
      rintro j env g hj ⟨v2, cs1, s', rfl, J, W, l, n1, fr⟩
      have jo := J.jo
      have kp := J.kp
      obtain ⟨cs2, ⟨a, d⟩, rfl⟩ := last_cases cs1 (fun z => by rw [z] at l; simp at l; omega)
      have kl : (bs.length : Int) < ((bs ++ (cs2 ++ [(a, d)])).map fun x => D.ref x.1).length := by rw [List.length_map, List.length_append, List.length_append]; simp; omega
      have oa := J.ob (a, d) (by simp)
      have la : L.B ≤ a := oa.1
      have lh : a < g.next := oa.2.1
      rw [← List.append_assoc, List.map_append] at kp kl
      rw [List.map_append] at W
      obtain ⟨W1, t, hf⟩ := W.last
      rw [List.length_append] at l
      simp at l
      have sm : Sml (b + cs.length) s' := (W.small z0).le (by simp; omega)
      have J1 : Jn L (bs ++ cs2) s' (g.put L.K (.lst ((bs ++ cs2).map fun x => D.ref x.1))) := J.step hL (J.hr.fr hL (fun b hb hn => by rw [put_get_ne hn])) rfl (fun b hb hn => by rw [put_get_ne hn]) (by rw [put_get, if_pos rfl]) (fun y hy => J.ob y (by rw [← List.append_assoc]; exact List.mem_append_left _ hy))
      have oa1 : (g.put L.K (.lst ((bs ++ cs2).map fun x => D.ref x.1))).get a = some (objD d) := by rw [put_get_ne (by omega)]; exact oa.2.2.1
      obtain ⟨g1, e1, H1, n2, f1⟩ := c_undo m a _ d J1.hr hL oa1 oa.2.2.2 hb sm
      rw [put_next] at n2
      have jo1 := J1.jo
      have k2 : ((bs ++ cs2).map fun x => D.ref x.1) ++ [D.ref a] = ((bs ++ cs2).map fun x => D.ref x.1) ++ [((a, d) : Nat × Dd)].map fun x => D.ref x.1 := rfl
      obtain ⟨X, hX⟩ : ∃ X, ((bs ++ cs2).map fun x => D.ref x.1) = X := ⟨_, rfl⟩
      rw [hX] at kp e1 f1 J1 oa1 jo1 kl
      refine ⟨?_, [some (D.ref L.J), some (.int (bs.length : Int)), some (.ref a)], g1, ?_, _, cs2, d.back s', rfl, ?_, W1, by omega, by omega, fun b hb hn => ?_⟩
      · simp_arith! [jo, kp, kl]
        simp at kl
        omega
      · cases d with
        | move i j q =>
          have oo : g.get a = some (objD _) := oa.2.2.1
          unfold objD at oo
          simp only [Dd.unN] at e1
          simp_arith! [jo, kp, oo, e1, jo1]
        | save i p o q =>
          have oo : g.get a = some (objD _) := oa.2.2.1
          unfold objD at oo
          simp only [Dd.unN] at e1
          simp_arith! [jo, kp, oo, e1, jo1]
        | note i q =>
          have oo : g.get a = some (objD _) := oa.2.2.1
          unfold objD at oo
          simp only [Dd.unN] at e1
          simp_arith! [jo, kp, oo, e1, jo1]
      · exact J1.step hL H1 (by rw [put_next]; exact n2) (fun b hb hn => f1 b hb) ((f1 _ (Lay.nK hL)).trans J1.kp) J1.ob
      · rw [f1 b hb, put_get_ne hn]; exact fr b hb hn) (by
      rintro env g ⟨v2, cs', s', rfl, J, W, l, n1, fr⟩
      have jo := J.jo
      have kp := J.kp
      rw [Nat.sub_self] at l
      have l0 := List.eq_nil_of_length_eq_zero l
      subst l0
      rw [List.append_nil] at kp
      simp_arith! [jo, kp]) 1000000 0 [some (D.ref L.J), some (.int (bs.length : Int)), none] h (Nat.zero_le _) (by omega) ⟨none, cs, s, rfl, x, w, rfl, rfl, fun _ _ _ => rfl⟩
    rw [Nat.sub_self] at l
    have l0 := List.eq_nil_of_length_eq_zero l
    subst l0
    rw [List.append_nil] at J
    have := W.none
    subst this
    exact ⟨_, g, e1, v2, rfl, J, n1, fr⟩
  obtain ⟨env', g, e1, v2, rfl, J, n1, fr⟩ := loop
  refine ⟨g, ?_, J, n1, fr⟩
  simp_arith! [] at e1
  have lf : PR.lf = 1000000 := rfl
  simp_arith [F_Journal_back]
  rw [lf, e1]
  all_goals (try rfl)
end

inductive Kd where | call | borrow | look
  deriving DecidableEq
def Kd.w : Kd → String
  | .call => "call" | .borrow => "borrow" | .look => "look"
inductive En where | run | well | fail | short | full | barred | dry | nobody | deep | poor
  deriving DecidableEq
def En.w : En → String
  | .run => "" | .well => "well" | .fail => "fail" | .short => "short" | .full => "full" | .barred => "barred" | .dry => "dry" | .nobody => "nobody" | .deep => "deep" | .poor => "poor"
structure Fm where
  kind : Kd
  who : Int
  whose : Int
  caller : Int
  coin : Int
  word : Int
  given : Int
  depth : Int
  still : Bool
inductive Sp where
  | at_ (k : Nat)
  | deed (d : Dd)
  | sub (fm : Fm) (en : En) (ans used : Int) (steps : List Sp)
def treeD (fm : Fm) (en : En) (ans used : Int) (a : Nat) : D := .tup [.str (Str.ofString fm.kind.w), .int fm.who, .int fm.whose, .int fm.caller, .int fm.coin, .int fm.word, .int fm.given, .str (Str.ofString en.w), .int ans, .int used, .ref a]
mutual
inductive RSp (h : Hm) (lo : Nat) : Sp → D → Prop
  | at_ (k : Nat) : RSp h lo (.at_ k) (.int (k : Int))
  | deed (d : Dd) : RSp h lo (.deed d) (tellD d)
  | sub {fm : Fm} {en : En} {ans used : Int} {steps : List Sp} {a : Nat} {ds : List D} : lo ≤ a → a < h.next → h.get a = some (.lst ds) → RSps h lo steps ds → RSp h lo (.sub fm en ans used steps) (treeD fm en ans used a)
inductive RSps (h : Hm) (lo : Nat) : List Sp → List D → Prop
  | nil : RSps h lo [] []
  | cons {x : Sp} {d : D} {xs : List Sp} {ds : List D} : RSp h lo x d → RSps h lo xs ds → RSps h lo (x :: xs) (d :: ds)
end
mutual
theorem RSp.mono {h h' : Hm} {lo lo' : Nat} (hl : lo' ≤ lo) (hn : h.next ≤ h'.next) (f : ∀ b, lo ≤ b → b < h.next → h'.get b = h.get b) : ∀ {x : Sp} {d : D}, RSp h lo x d → RSp h' lo' x d
  | _, _, .at_ k => .at_ k
  | _, _, .deed d => .deed d
  | _, _, .sub h1 h2 h3 h4 => .sub (Nat.le_trans hl h1) (Nat.lt_of_lt_of_le h2 hn) ((f _ h1 h2).trans h3) (RSps.mono hl hn f h4)
theorem RSps.mono {h h' : Hm} {lo lo' : Nat} (hl : lo' ≤ lo) (hn : h.next ≤ h'.next) (f : ∀ b, lo ≤ b → b < h.next → h'.get b = h.get b) : ∀ {x : List Sp} {d : List D}, RSps h lo x d → RSps h' lo' x d
  | _, _, .nil => .nil
  | _, _, .cons h1 h2 => .cons (RSp.mono hl hn f h1) (RSps.mono hl hn f h2)
end
theorem RSps.snoc {h : Hm} {lo : Nat} {x : Sp} {d : D} : ∀ {xs : List Sp} {ds : List D}, RSps h lo xs ds → RSp h lo x d → RSps h lo (xs ++ [x]) (ds ++ [d])
  | _, _, .nil, r => .cons r .nil
  | _, _, .cons a b, r => .cons a (RSps.snoc b r)
theorem RSps.put {h : Hm} {lo a : Nat} {o : O} {xs : List Sp} {ds : List D} (r : RSps h lo xs ds) (c : a < lo) : RSps (h.put a o) lo xs ds :=
  RSps.mono (h := h) (h' := h.put a o) (Nat.le_refl lo) (Nat.le_refl _) (fun b hb _ => put_get_ne (by omega)) r
theorem RSps.len {h : Hm} {lo : Nat} : ∀ {xs : List Sp} {ds : List D}, RSps h lo xs ds → ds.length = xs.length
  | _, _, .nil => rfl
  | _, _, .cons _ b => by rw [List.length_cons, List.length_cons, RSps.len b]
structure MS where
  stk : List Int
  at_ : Nat
  used : Int
  steps : List Sp
  en : En
  ans : Int
  s : S
  js : List Dd
def stD (st : List Int) : List D := (st.map D.int).reverse
theorem stD_cons (x : Int) (st : List Int) : stD (x :: st) = stD st ++ [.int x] := by unfold stD; rw [List.map_cons, List.reverse_cons]
theorem stD_len (st : List Int) : (stD st).length = st.length := by unfold stD; rw [List.length_reverse, List.length_map]
def frO (F : Nat) (fm : Fm) (m : MS) : O := .ins "Frame" [("kind", .str (Str.ofString fm.kind.w)), ("who", .int fm.who), ("whose", .int fm.whose), ("caller", .int fm.caller), ("coin", .int fm.coin), ("word", .int fm.word), ("given", .int fm.given), ("depth", .int fm.depth), ("still", .bl fm.still), ("stack", .ref (F + 1)), ("at", .int (m.at_ : Int)), ("used", .int m.used), ("steps", .ref (F + 2)), ("end", .str (Str.ofString m.en.w)), ("answer", .int m.ans)]
structure Run (L : Lay) (M F : Nat) (fm : Fm) (m : MS) (h : Hm) : Prop where
  mo : h.get M = some (.ins "Machine" [("rooms", .ref L.RM), ("journal", .ref L.J)])
  fo : h.get F = some (frO F fm m)
  st : h.get (F + 1) = some (.lst (stD m.stk))
  sp : ∃ ds, h.get (F + 2) = some (.lst ds) ∧ RSps h (F + 3) m.steps ds
  jn : ∃ as, Jn L as m.s h ∧ as.map (·.2) = m.js ∧ ∀ y ∈ as, y.1 ≠ F ∧ y.1 ≠ F + 1 ∧ y.1 ≠ F + 2
  lM : L.B ≤ M ∧ M < h.next ∧ M ≠ F ∧ M ≠ F + 1 ∧ M ≠ F + 2
  lF : L.B ≤ F ∧ F + 3 ≤ h.next
def Fx (L : Lay) (F : Nat) (h g : Hm) : Prop := h.next ≤ g.next ∧ ∀ b, b < h.next → ¬ L.Sh b → b ≠ L.K → b ≠ F → b ≠ F + 1 → b ≠ F + 2 → g.get b = h.get b
theorem Fx.refl {L : Lay} {F : Nat} {h : Hm} : Fx L F h h := ⟨Nat.le_refl _, fun _ _ _ _ _ _ _ => rfl⟩
theorem Fx.trans {L : Lay} {F : Nat} {h g k : Hm} (a : Fx L F h g) (b : Fx L F g k) : Fx L F h k :=
  ⟨Nat.le_trans a.1 b.1, fun c h1 h2 h3 h4 h5 h6 => (b.2 c (Nat.lt_of_lt_of_le h1 a.1) h2 h3 h4 h5 h6).trans (a.2 c h1 h2 h3 h4 h5 h6)⟩
theorem Fx.put0 {L : Lay} {F : Nat} {h : Hm} {o : O} : Fx L F h (h.put F o) := ⟨Nat.le_refl _, fun b _ _ _ h4 _ _ => put_get_ne h4⟩
theorem Fx.put1 {L : Lay} {F : Nat} {h : Hm} {o : O} : Fx L F h (h.put (F + 1) o) := ⟨Nat.le_refl _, fun b _ _ _ _ h5 _ => put_get_ne h5⟩
theorem Fx.put2 {L : Lay} {F : Nat} {h : Hm} {o : O} : Fx L F h (h.put (F + 2) o) := ⟨Nat.le_refl _, fun b _ _ _ _ _ h6 => put_get_ne h6⟩
theorem Fx.gro {L : Lay} {F : Nat} {h g : Hm} (x : Gro h g) : Fx L F h g := ⟨x.le, fun b h1 _ _ _ _ _ => x.at_ b h1⟩
section
variable {L : Lay} {M F : Nat} {fm : Fm} {m : MS} {h : Hm}
theorem Run.to {m' : MS} {h' : Hm} (x : Run L M F fm m h) (hL : L.Ok) (hs : m'.s = m.s) (hj : m'.js = m.js) (nx : h.next ≤ h'.next) (fr : ∀ b, b < h.next → b ≠ F → b ≠ F + 1 → b ≠ F + 2 → h'.get b = h.get b)
    (fo : h'.get F = some (frO F fm m')) (st : h'.get (F + 1) = some (.lst (stD m'.stk))) (sp : ∃ ds, h'.get (F + 2) = some (.lst ds) ∧ RSps h' (F + 3) m'.steps ds) : Run L M F fm m' h' := by
  obtain ⟨m1, m2, m3, m4, m5⟩ := x.lM
  obtain ⟨f1, f2⟩ := x.lF
  obtain ⟨as, J, ja, av⟩ := x.jn
  refine ⟨(fr M m2 m3 m4 m5).trans x.mo, fo, st, sp, ⟨as, ?_, by rw [hj]; exact ja, av⟩, ⟨m1, by omega, m3, m4, m5⟩, f1, by omega⟩
  rw [hs]
  refine J.keep hL nx (fun b hb => fr b (by omega) (by omega) (by omega) (by omega)) fun y hy => ?_
  obtain ⟨a1, a2, a3⟩ := av y hy
  exact fr _ (J.ob y hy).2.1 a1 a2 a3
theorem Run.stk (x : Run L M F fm m h) (hL : L.Ok) (st : List Int) : Run L M F fm { m with stk := st } (h.put (F + 1) (.lst (stD st))) := by
  obtain ⟨ds, e, r⟩ := x.sp
  exact x.to hL rfl rfl (Nat.le_refl _) (fun b _ _ h2 _ => put_get_ne h2) ((put_get_ne (by omega)).trans x.fo) (by rw [put_get, if_pos rfl]) ⟨ds, (put_get_ne (by omega)).trans e, r.put (by omega)⟩
theorem Run.frm (x : Run L M F fm m h) (hL : L.Ok) (k : Nat) (u a : Int) (e : En) : Run L M F fm { m with at_ := k, used := u, en := e, ans := a } (h.put F (frO F fm { m with at_ := k, used := u, en := e, ans := a })) := by
  obtain ⟨ds, e', r⟩ := x.sp
  exact x.to hL rfl rfl (Nat.le_refl _) (fun b _ h1 _ _ => put_get_ne h1) (by rw [put_get, if_pos rfl]) ((put_get_ne (by omega)).trans x.st) ⟨ds, (put_get_ne (by omega)).trans e', r.put (by omega)⟩
theorem Run.stp (x : Run L M F fm m h) (hL : L.Ok) {ds : List D} {sp : Sp} {d : D} (e : h.get (F + 2) = some (.lst ds)) (r : RSps h (F + 3) m.steps ds) (q : RSp h (F + 3) sp d) : Run L M F fm { m with steps := m.steps ++ [sp] } (h.put (F + 2) (.lst (ds ++ [d]))) := by
  exact x.to hL rfl rfl (Nat.le_refl _) (fun b _ _ _ h3 => put_get_ne h3) ((put_get_ne (by omega)).trans x.fo) ((put_get_ne (by omega)).trans x.st) ⟨_, by rw [put_get, if_pos rfl], (r.snoc q).put (by omega)⟩
theorem Run.gro {h' : Hm} (x : Run L M F fm m h) (hL : L.Ok) (g : Gro h h') : Run L M F fm m h' := by
  obtain ⟨ds, e, r⟩ := x.sp
  have lF := x.lF
  exact x.to hL rfl rfl g.le (fun b h1 _ _ _ => g.at_ b h1) (g.get x.fo (by omega)) (g.get x.st (by omega)) ⟨ds, g.get e (by omega), RSps.mono (Nat.le_refl _) g.le (fun b _ h1 => g.at_ b h1) r⟩
end

def MS.wr (m : MS) (d : Dd) : MS := { m with s := d.run m.s, js := m.js ++ [d], steps := m.steps ++ [.deed d] }
def dear (s : S) (who : Int) : Rk → List Int → Bool
  | .save, x :: p :: _ => decide (s.f who p = 0) && decide (x ≠ 0)
  | .call, _ :: _ :: c :: _ => decide (0 < c)
  | _, _ => false
def isCh : Rk → List Int → Bool
  | .call, _ :: _ :: c :: _ => decide (0 < c)
  | .save, _ => true
  | .note, _ => true
  | _, _ => false
def cost (fm : Fm) (r : Rk) (m : MS) : Int := r.price (dear m.s fm.who r m.stk)
def fault (fm : Fm) (r : Rk) (m : MS) : En :=
  if m.stk.length < r.takes then .short else if 24 < m.stk.length - r.takes + r.leaves then .full else if (fm.still && isCh r m.stk) = true then .barred else if fm.given - m.used < cost fm r m then .dry else .run
def inner (fm : Fm) (k : Kd) (i c w : Int) : Fm := match k with
  | .borrow => ⟨.borrow, fm.who, i, fm.caller, fm.coin, w, 0, fm.depth + 1, fm.still⟩
  | .call => ⟨.call, i, i, fm.who, c, w, 0, fm.depth + 1, fm.still⟩
  | .look => ⟨.look, i, i, fm.who, c, w, 0, fm.depth + 1, true⟩
def unbegun (L : Lay) (fm : Fm) (k : Kd) (i c : Int) (s : S) : En :=
  if L.on i = false then .nobody else if 8 < fm.depth + 1 then .deep else if k = .call ∧ s.c fm.who < c then .poor else .run
def MS.start (s : S) (js : List Dd) (e : En) : MS := ⟨[], 0, 0, [], e, 0, s, js⟩
def MS.take (m : MS) (f : Fm) (r : MS) : MS := { m with used := m.used + r.used, steps := m.steps ++ [.sub f r.en r.ans r.used r.steps], stk := (if r.en = .well then 1 else 0) :: r.ans :: m.stk, s := r.s, js := r.js }
def begin_ (go : Fm → S → List Dd → MS) (L : Lay) (fm : Fm) (k : Kd) (i c a w : Int) (m : MS) : MS :=
  let f := inner fm k i c w
  let e := unbegun L fm k i c m.s
  if e = .run then (let f' := { f with given := if fm.given - m.used < a then fm.given - m.used else a }; m.take f' (go f' m.s m.js)) else m.take f (MS.start m.s m.js e)
def act (go : Fm → S → List Dd → MS) (L : Lay) (fm : Fm) (r : Rk) (m : MS) : MS := match r, m.stk with
  | .push v, st => { m with stk := v :: st }
  | .drop, _ :: st => { m with stk := st }
  | .copy k, st => { m with stk := st.getD k 0 :: st }
  | .swap k, t :: st => { m with stk := st.getD (k - 1) 0 :: st.set (k - 1) t }
  | .sum w, b :: a :: st => { m with stk := w.op a b :: st }
  | .jump k, _ => { m with at_ := k }
  | .jumpif k, x :: st => { m with stk := st, at_ := if x ≠ 0 then k else m.at_ }
  | .load, p :: st => { m with stk := m.s.f fm.who p :: st }
  | .save, x :: p :: st => { m with stk := st }.wr (.save fm.who p (m.s.f fm.who p) x)
  | .me, st => { m with stk := fm.who :: st }
  | .from_, st => { m with stk := fm.caller :: st }
  | .sent, st => { m with stk := fm.coin :: st }
  | .word, st => { m with stk := fm.word :: st }
  | .coin, i :: st => { m with stk := (if L.on i = true then m.s.c i else 0) :: st }
  | .note, x :: st => { m with stk := st }.wr (.note fm.who x)
  | .call, w :: a :: c :: i :: st => begin_ go L fm .call i c a w { m with stk := st }
  | .borrow, w :: a :: i :: st => begin_ go L fm .borrow i 0 a w { m with stk := st }
  | .look, w :: a :: i :: st => begin_ go L fm .look i 0 a w { m with stk := st }
  | .give, x :: st => { m with stk := st, en := .well, ans := x }
  | .fail, x :: st => { m with stk := st, en := .fail, ans := x }
  | _, _ => m
def step (go : Fm → S → List Dd → MS) (L : Lay) (fm : Fm) (m : MS) : MS := match (L.rows fm.whose)[m.at_]? with
  | none => { m with en := .well, ans := 0 }
  | some r => if fault fm r m = .run then act go L fm r { m with used := m.used + cost fm r m, steps := m.steps ++ [.at_ m.at_], at_ := m.at_ + 1 } else { m with en := fault fm r m, ans := 0 }
def iter (f : MS → MS) : Nat → MS → MS
  | 0, m => m
  | n + 1, m => if m.en = .run then iter f n (f m) else m
def goP (L : Lay) : Nat → Fm → S → List Dd → MS
  | 0, _, s, js => MS.start s js .run
  | d + 1, fm, s, js =>
    let m1 := if fm.kind = .call ∧ 0 < fm.coin then (MS.start s js .run).wr (.move fm.caller fm.who fm.coin) else MS.start s js .run
    let m2 := iter (step (goP L d) L fm) (fm.given.toNat + 1) m1
    if m2.en = .well then m2 else { m2 with s := s, js := js }

--CUT
section
variable {L : Lay} {M F : Nat} {fm : Fm} {m : MS} {h : Hm}
theorem c_finish (n : Nat) (x : Run L M F fm m h) (e : En) (a : Int) : callF PR (n + 1) "Frame.finish" [.ref F, .str (Str.ofString e.w), .int a] h = some (.ok .non, h.put F (frO F fm { m with en := e, ans := a })) := by
  rw [callF_eq fn_Frame_finish rfl]
  have fo := x.fo
  unfold frO at fo ⊢
  generalize Str.ofString e.w = z
  simp_arith! [F_Frame_finish, fo]
theorem c_is_short (n : Nat) (x : Run L M F fm m h) (r : Rk) : callF PR (n + 3) "Frame.is_short" [.ref F, r.D] h = some (.ok (.bl (decide (m.stk.length < r.takes))), h) := by
  rw [callF_eq fn_Frame_is_short rfl]
  have fo := x.fo
  have st := x.st
  have t := c_takes n r h
  have l := stD_len m.stk
  unfold frO at fo
  generalize r.D = d at t ⊢
  generalize stD m.stk = q at st l
  have e : decide ((m.stk.length : Int) < (r.takes : Int)) = decide (m.stk.length < r.takes) := by rw [decide_eq_decide]; omega
  simp_arith! [F_Frame_is_short, fo, st, t, l, e]
theorem c_is_full (n : Nat) (x : Run L M F fm m h) (r : Rk) (hs : r.takes ≤ m.stk.length) : callF PR (n + 3) "Frame.is_full" [.ref F, r.D] h = some (.ok (.bl (decide (24 < m.stk.length - r.takes + r.leaves))), h) := by
  rw [callF_eq fn_Frame_is_full rfl]
  have fo := x.fo
  have st := x.st
  have t := c_takes n r h
  have t2 := c_leaves (n + 1) r h
  have l := stD_len m.stk
  unfold frO at fo
  generalize r.D = d at t t2 ⊢
  generalize stD m.stk = q at st l
  have e : decide ((24 : Int) < (m.stk.length : Int) - (r.takes : Int) + (r.leaves : Int)) = decide (24 < m.stk.length - r.takes + r.leaves) := by rw [decide_eq_decide]; omega
  simp_arith! [F_Frame_is_full, fo, st, t, t2, l, e]
theorem atD_m2 {α : Type} (xs : List α) (x y : α) : atD (xs ++ [y] ++ [x]) (-2) = some y := by
  unfold atD
  simp
  refine ⟨by omega, ?_⟩
  have : (-2 + ((xs.length : Int) + 2)).toNat = xs.length := by omega
  rw [this]
  simp
theorem atD_m3 {α : Type} (xs : List α) (x y z : α) : atD (xs ++ [z] ++ [y] ++ [x]) (-3) = some z := by
  unfold atD
  simp
  refine ⟨by omega, ?_⟩
  have : (-3 + ((xs.length : Int) + 3)).toNat = xs.length := by omega
  rw [this]
  simp
theorem c_is_change (n : Nat) (r : Rk) (st : List Int) (a : Nat) (h : Hm) (e : h.get a = some (.lst (stD st))) (hs : r.takes ≤ st.length) : callF PR (n + 1) "is_change" [r.D, .ref a] h = some (.ok (.bl (isCh r st)), h) := by
  rw [callF_eq fn_is_change rfl]
  cases r with
  | sum w => cases w <;> simp_arith [F_is_change, Rk.D, Rk.v, Rk.w, Sm.w, isCh]
  | call =>
    match st, hs with
    | w :: b :: c :: st, _ =>
      rw [stD_cons, stD_cons, stD_cons] at e
      have a3 := atD_m3 (stD st) (D.int w) (.int b) (.int c)
      have : ∀ (x : D) (h : Hm), h.get a = some (.lst (stD st ++ [.int c] ++ [.int b] ++ [.int w])) → idxD (.ref a) (.int (-3)) h = some (.int c) := fun _ g hg => (ix_lst hg).trans a3
      generalize stD st ++ [D.int c] ++ [.int b] ++ [.int w] = q at e a3
      simp_arith [F_is_change, Rk.D, Rk.v, Rk.w, isCh, e, a3]
  | _ => simp_arith [F_is_change, Rk.D, Rk.v, Rk.w, Sm.w, isCh]
theorem c_account_on (n : Nat) (x : Run L M F fm m h) (hL : L.Ok) {i : Int} (hi : L.on i = true) : callF PR (n + 1) "Machine.account" [.ref M, .int i] h = some (.ok (.ref (L.ad i)), h) := by
  rw [callF_eq fn_Machine_account rfl]
  obtain ⟨as, J, _⟩ := x.jn
  have mo := x.mo
  have rm := J.hr.rm
  have ri := Lay.rm_on hL hi
  have rl := L.rm_len
  obtain ⟨i0, i1⟩ := hL.sm i hi
  generalize L.rm = q at rm ri rl
  simp_arith! [F_Machine_account, mo, rm, ri, rl, i1]
theorem c_account_off (n : Nat) (x : Run L M F fm m h) {i : Int} (h0 : 0 ≤ i) (hi : L.on i = false) : callF PR (n + 1) "Machine.account" [.ref M, .int i] h = some (.ok .non, h) := by
  rw [callF_eq fn_Machine_account rfl]
  obtain ⟨as, J, _⟩ := x.jn
  have mo := x.mo
  have rm := J.hr.rm
  have rl := L.rm_len
  by_cases h1 : i < 16
  · have ri := Lay.rm_off h0 h1 hi
    generalize L.rm = q at rm ri rl
    simp_arith! [F_Machine_account, mo, rm, ri, rl]
  · generalize L.rm = q at rm rl
    simp_arith! [F_Machine_account, mo, rm, rl, h1]
theorem c_cost (n : Nat) (x : Run L M F fm m h) (hL : L.Ok) (r : Rk) (hw : L.on fm.who = true) (hs : r.takes ≤ m.stk.length) : callF PR (n + 2) "Machine.cost" [.ref M, .ref F, r.D] h = some (.ok (.int (cost fm r m)), h) := by
  rw [callF_eq fn_Machine_cost rfl]
  obtain ⟨as, J, _⟩ := x.jn
  have mo := x.mo
  have fo := x.fo
  have st := x.st
  have rm := J.hr.rm
  have ri := Lay.rm_on hL hw
  have ld := fun p => c_loaded n fm.who p J.hr hw
  have pr := fun b => c_price n r b h
  have ai := J.hr.ac fm.who hw
  unfold Lay.aco acO at ai
  unfold frO at fo
  unfold cost
  generalize hX : L.rm = X at rm ri
  cases r with
  | save =>
    match hk : m.stk, hs with
    | v :: p :: s, _ =>
      rw [hk, stD_cons, stD_cons] at st
      have a2 := atD_m2 (stD s) (D.int v) (.int p)
      have a1 := atD_last (stD s ++ [D.int p]) (.int v)
      generalize stD s ++ [D.int p] ++ [.int v] = q at st a1 a2
      have pt := pr true
      have pf := pr false
      simp only [Rk.D, Rk.v, Rk.w] at pt pf ⊢
      unfold dear
      by_cases h1 : m.s.f fm.who p = 0 <;> by_cases h2 : v = 0 <;> simp_arith! [F_Machine_cost, mo, fo, st, rm, ri, ld, ai, a1, a2, pt, pf, h1, h2]
  | call =>
    match hk : m.stk, hs with
    | w :: b :: c :: s, _ =>
      rw [hk, stD_cons, stD_cons, stD_cons] at st
      have a3 := atD_m3 (stD s) (D.int w) (.int b) (.int c)
      generalize stD s ++ [D.int c] ++ [.int b] ++ [.int w] = q at st a3
      have pt := pr true
      have pf := pr false
      simp only [Rk.D, Rk.v, Rk.w] at pt pf ⊢
      unfold dear
      by_cases h1 : 0 < c <;> simp_arith! [F_Machine_cost, mo, fo, st, a3, pt, pf, h1]
  | sum w =>
    have pf := pr false
    cases w <;> (simp only [Rk.D, Rk.v, Rk.w, Sm.w] at pf ⊢; unfold dear; simp_arith! [F_Machine_cost, pf])
  | _ =>
    have pf := pr false
    simp only [Rk.D, Rk.v, Rk.w, Sm.w] at pf ⊢
    unfold dear
    simp_arith! [F_Machine_cost, pf]
theorem c_fault (n : Nat) (x : Run L M F fm m h) (hL : L.Ok) (r : Rk) (hw : L.on fm.who = true) : callF PR (n + 4) "Machine.fault" [.ref M, .ref F, r.D] h = some (.ok (.str (Str.ofString (fault fm r m).w)), h) := by
  rw [callF_eq fn_Machine_fault rfl]
  have mo := x.mo
  have fo := x.fo
  have e1 := c_is_short n x r
  unfold frO at fo
  unfold fault
  by_cases h1 : m.stk.length < r.takes
  · rw [if_pos h1]
    rw [decide_eq_true h1] at e1
    generalize r.D = d at e1 ⊢
    simp_arith! [F_Machine_fault, mo, fo, e1, En.w]
  rw [if_neg h1]
  rw [decide_eq_false h1] at e1
  have hs : r.takes ≤ m.stk.length := by omega
  have e2 := c_is_full n x r hs
  by_cases h2 : 24 < m.stk.length - r.takes + r.leaves
  · rw [if_pos h2]
    rw [decide_eq_true h2] at e2
    generalize r.D = d at e1 e2 ⊢
    simp_arith! [F_Machine_fault, mo, fo, e1, e2, En.w]
  rw [if_neg h2]
  rw [decide_eq_false h2] at e2
  have e3 := c_is_change (n + 2) r m.stk (F + 1) h x.st hs
  have e4 := c_cost (n + 1) x hL r hw hs
  generalize r.D = d at e1 e2 e3 e4 ⊢
  generalize isCh r m.stk = b3 at e3 ⊢
  generalize cost fm r m = c4 at e4 ⊢
  cases hst : fm.still with
  | false =>
    rw [hst] at fo
    by_cases h4 : fm.given - m.used < c4 <;> simp_arith! [F_Machine_fault, mo, fo, e1, e2, e3, e4, h4, En.w]
  | true =>
    rw [hst] at fo
    cases b3 with
    | true => simp_arith! [F_Machine_fault, mo, fo, e1, e2, e3, e4, En.w]
    | false => by_cases h4 : fm.given - m.used < c4 <;> simp_arith! [F_Machine_fault, mo, fo, e1, e2, e3, e4, h4, En.w]
theorem c_unbegun (n F' a : Nat) (f : Fm) (m' : MS) (i : Int) (x : Run L M F fm m h) (hL : L.Ok) (hw : L.on fm.who = true) (h0 : 0 ≤ i) (e : h.get F' = some (frO F' f m')) (hd : f.depth = fm.depth + 1) (hk : f.kind = .call → f.coin = c) :
    callF PR (n + 2) "Machine.unbegun" [.ref M, .ref F, .ref F', .int i] h = some (.ok (.str (Str.ofString (unbegun L fm f.kind i c m.s).w)), h) := by
  rw [callF_eq fn_Machine_unbegun rfl]
  obtain ⟨as, J, _⟩ := x.jn
  have mo := x.mo
  have fo := x.fo
  have rm := J.hr.rm
  have ri := Lay.rm_on hL hw
  have ai := J.hr.ac fm.who hw
  unfold Lay.aco acO at ai
  unfold frO at fo e
  unfold unbegun
  rw [hd] at e
  generalize hX : L.rm = X at rm ri
  cases hon : L.on i with
  | false =>
    have ac := c_account_off n x h0 hon
    simp_arith! [F_Machine_unbegun, mo, ac, En.w]
  | true =>
    have ac := c_account_on n x hL hon
    by_cases h1 : 8 < fm.depth + 1
    · simp_arith! [F_Machine_unbegun, mo, ac, e, h1, En.w]
    · cases hk2 : f.kind with
      | call =>
        rw [hk hk2] at e
        rw [hk2] at e
        by_cases h2 : m.s.c fm.who < c <;> simp_arith! [F_Machine_unbegun, mo, ac, e, fo, rm, ri, ai, h1, h2, En.w, Kd.w]
      | borrow =>
        rw [hk2] at e
        simp_arith! [F_Machine_unbegun, mo, ac, e, h1, En.w, Kd.w]
      | look =>
        rw [hk2] at e
        simp_arith! [F_Machine_unbegun, mo, ac, e, h1, En.w, Kd.w]
end

--CUT
section
variable {L : Lay} {M F : Nat} {fm : Fm} {m : MS} {h : Hm}
theorem c_place (n : Nat) (x : Run L M F fm m h) (z : String) (v : Int) (hz : (z = "me" ∧ v = fm.who) ∨ (z = "from" ∧ v = fm.caller) ∨ (z = "sent" ∧ v = fm.coin) ∨ (z = "word" ∧ v = fm.word)) : callF PR (n + 1) "Frame.place" [.ref F, .str (Str.ofString z)] h = some (.ok (.int v), h) := by
  rw [callF_eq fn_Frame_place rfl]
  have fo := x.fo
  unfold frO at fo
  rcases hz with ⟨rfl, rfl⟩ | ⟨rfl, rfl⟩ | ⟨rfl, rfl⟩ | ⟨rfl, rfl⟩ <;> simp_arith! [F_Frame_place, fo]
theorem stD_at (st : List Int) (k : Nat) (hk : k < st.length) : atD (stD st) (-1 - (k : Int)) = some (.int (st.getD k 0)) := by
  unfold atD
  rw [if_neg (by omega), if_pos (by rw [stD_len]; omega), stD_len]
  have : (-1 - (k : Int) + st.length).toNat = st.length - 1 - k := by omega
  rw [this, stD, List.getElem?_reverse (by rw [List.length_map]; omega), List.length_map, List.getElem?_map]
  have : st.length - 1 - (st.length - 1 - k) = k := by omega
  rw [this, List.getElem?_eq_getElem hk, List.getD_eq_getElem?_getD, List.getElem?_eq_getElem hk]
  rfl
theorem stD_nat (st : List Int) (k : Nat) (hk : k < st.length) : atD (stD st) ((st.length : Int) - 1 - (k : Int)) = some (.int (st.getD k 0)) := by
  have e : ((st.length : Int) - 1 - (k : Int)) = ((st.length - 1 - k : Nat) : Int) := by omega
  rw [e, atD_nat, stD, List.getElem?_reverse (by rw [List.length_map]; omega), List.length_map, List.getElem?_map]
  have : st.length - 1 - (st.length - 1 - k) = k := by omega
  rw [this, List.getElem?_eq_getElem hk, List.getD_eq_getElem?_getD, List.getElem?_eq_getElem hk]
  rfl
theorem stD_set (st : List Int) (k : Nat) (v : Int) (hk : k < st.length) : (stD st).set (st.length - 1 - k) (.int v) = stD (st.set k v) := by
  unfold stD
  apply List.ext_getElem?
  intro i
  by_cases hi : i < st.length
  · rw [List.getElem?_reverse (by rw [List.length_map, List.length_set]; exact hi), List.length_map, List.length_set, List.getElem?_map, List.getElem?_set, List.getElem?_set, List.getElem?_reverse (by rw [List.length_map]; exact hi), List.length_map, List.getElem?_map, List.length_reverse, List.length_map]
    by_cases he : st.length - 1 - k = i
    · have e2 : k = st.length - 1 - i := by omega
      rw [if_pos he, if_pos (by omega), if_pos e2, if_pos (by omega)]
      rfl
    · rw [if_neg he, if_neg (by omega)]
  · rw [List.getElem?_eq_none (by rw [List.length_set, List.length_reverse, List.length_map]; omega), List.getElem?_eq_none (by rw [List.length_reverse, List.length_map, List.length_set]; omega)]
theorem put_twice {h : Hm} {a : Nat} {o o' : O} : (h.put a o).put a o' = h.put a o' := by simp
theorem c_move_about (n : Nat) (x : Run L M F fm m h) (r : Rk) (go : Fm → S → List Dd → MS) (hr : (∃ v, r = .push v) ∨ r = .drop ∨ (∃ k, r = .copy k) ∨ ∃ k, r = .swap k ∧ 1 ≤ k) (hs : r.takes ≤ m.stk.length) (hl : m.stk.length ≤ 24) :
    callF PR (n + 1) "Frame.move_about" [.ref F, r.D] h = some (.ok .non, h.put (F + 1) (.lst (stD (act go L fm r m).stk))) := by
  rw [callF_eq fn_Frame_move_about rfl]
  have fo := x.fo
  have st := x.st
  have ln := stD_len m.stk
  unfold frO at fo
  rcases hr with ⟨v, rfl⟩ | rfl | ⟨k, rfl⟩ | ⟨k, rfl, k1⟩
  · simp only [act, stD_cons, Rk.D, Rk.v, Rk.w]
    generalize stD m.stk = q at st ln ⊢
    have l2 : q.length < 1000000 := by omega
    simp_arith! [F_Frame_move_about, fo, st, l2]
  · match hk : m.stk, hs with
    | t :: s, _ =>
      rw [hk, stD_cons] at st
      have ea : (act go L fm .drop m).stk = s := by unfold act; rw [hk]
      rw [ea]
      simp only [Rk.D, Rk.v, Rk.w]
      generalize stD s = q at st ⊢
      simp_arith! [F_Frame_move_about, fo, st]
  · have at_ := stD_at m.stk k (by simp only [Rk.takes] at hs; omega)
    simp only [act, stD_cons, Rk.D, Rk.v, Rk.w]
    generalize stD m.stk = q at st ln at_ ⊢
    have l2 : q.length < 1000000 := by omega
    simp_arith! [F_Frame_move_about, fo, st, l2, at_]
  · match hk : m.stk, hs, hl with
    | t :: s, hs, hl =>
      simp only [Rk.takes, List.length_cons] at hs hl
      rw [hk, stD_cons] at st
      rw [hk] at ln
      have ea : (act go L fm (.swap k) m).stk = s.getD (k - 1) 0 :: s.set (k - 1) t := by unfold act; rw [hk]
      rw [ea, stD_cons]
      have ls := stD_len s
      have e1 : ((s.length : Int) + 1 - 1 - (k : Int)) = (s.length : Int) - 1 - ((k - 1 : Nat) : Int) := by omega
      have at_ := stD_nat s (k - 1) (by omega)
      rw [← e1] at at_
      obtain ⟨j, hj⟩ : ∃ j : Nat, s.length - 1 - (k - 1) = j := ⟨_, rfl⟩
      have e2 : ((s.length : Int) + 1 - 1 - (k : Int)) = (j : Int) := by omega
      have ss := stD_set s (k - 1) t (by omega)
      rw [hj] at ss
      have s2 : ∀ y : D, (stD s ++ [y]).set j (.int t) = stD (s.set (k - 1) t) ++ [y] := fun y => by rw [List.set_append_left _ _ (by omega), ss]
      rw [e2] at at_
      generalize s.getD (k - 1) 0 = gg at at_ ⊢
      have s3 := s2 (.int gg)
      generalize stD (s.set (k - 1) t) = q2 at s3 ⊢
      simp only [Rk.D, Rk.v, Rk.w]
      have sl : s.length ≤ 30 := by omega
      generalize stD s = q at st ls at_ s3 ⊢
      have l2 : q.length < 1000000 := by omega
      have ix := ixD_nat (q.length + 1) j (by omega)
      have e3 : (s.length : Int) - (k : Int) = (j : Int) := by omega
      have ix2 := ixD_nat (s.length + 1) j (by omega)
      simp_arith! [F_Frame_move_about, fo, st, l2, at_, e3, ls, s3, ix, ix2]
end

--CUT
theorem popO_q {q1 q : List D} {y : D} (e : q ++ [y] = q1) (a : Nat) (g : Hm) : popO (some (.lst q1)) a g = some (.ok y, g.put a (.lst q)) := by rw [← e]; exact popO_l
section
variable {L : Lay} {M F : Nat} {fm : Fm} {m : MS} {h : Hm} {go : Fm → S → List Dd → MS}
theorem c_lead (n : Nat) (x : Run L M F fm m h) (hL : L.Ok) (r : Rk) (hr : (∃ k, r = .jump k) ∨ (∃ k, r = .jumpif k) ∨ r = .give ∨ r = .fail) (hs : r.takes ≤ m.stk.length) :
    ∃ g, callF PR (n + 2) "Frame.lead" [.ref F, r.D] h = some (.ok .non, g) ∧ Run L M F fm (act go L fm r m) g ∧ Fx L F h g := by
  rw [callF_eq fn_Frame_lead rfl]
  have fo := x.fo
  have st := x.st
  rcases hr with ⟨k, rfl⟩ | ⟨k, rfl⟩ | rfl | rfl
  · refine ⟨_, ?_, x.frm hL k m.used m.ans m.en, Fx.put0⟩
    unfold frO at fo ⊢
    simp only [Rk.D, Rk.v, Rk.w]
    simp_arith! [F_Frame_lead, fo]
  · match hk : m.stk, hs with
    | t :: s, _ =>
      rw [hk, stD_cons] at st
      have x1 := x.stk hL s
      have ea : act go L fm (.jumpif k) m = { m with stk := s, at_ := if t ≠ 0 then k else m.at_ } := by unfold act; rw [hk]
      rw [ea]
      have fo1 := x1.fo
      unfold frO at fo fo1
      by_cases ht : t = 0
      · refine ⟨_, ?_, by rw [if_neg (by simp [ht])]; exact x1, Fx.put1⟩
        simp only [Rk.D, Rk.v, Rk.w]
        generalize stD s = q at st ⊢
        simp_arith! [F_Frame_lead, fo, st, ht]
      · refine ⟨_, ?_, by rw [if_pos ht]; exact x1.frm hL k m.used m.ans m.en, Fx.put1.trans Fx.put0⟩
        unfold frO
        simp only [Rk.D, Rk.v, Rk.w]
        generalize stD s = q at st fo1 ⊢
        simp_arith! [F_Frame_lead, fo, st, fo1, ht]
  · match hk : m.stk, hs with
    | t :: s, _ =>
      rw [hk, stD_cons] at st
      have x1 := x.stk hL s
      have ea : act go L fm .give m = { m with stk := s, en := .well, ans := t } := by unfold act; rw [hk]
      rw [ea]
      have fi := c_finish n x1 .well t
      have x2 := x1.frm hL m.at_ m.used t .well
      have fo1 := x1.fo
      refine ⟨_, ?_, x2, Fx.put1.trans Fx.put0⟩
      generalize hO : frO F fm _ = O at fi ⊢
      clear hO
      unfold frO at fo fo1
      simp only [Rk.D, Rk.v, Rk.w, En.w] at fi ⊢
      generalize stD s = q at st fo1 fi ⊢
      simp_arith! [F_Frame_lead, fo, st, fo1, fi]
  · match hk : m.stk, hs with
    | t :: s, _ =>
      rw [hk, stD_cons] at st
      have x1 := x.stk hL s
      have ea : act go L fm .fail m = { m with stk := s, en := .fail, ans := t } := by unfold act; rw [hk]
      rw [ea]
      have fi := c_finish n x1 .fail t
      have x2 := x1.frm hL m.at_ m.used t .fail
      have fo1 := x1.fo
      refine ⟨_, ?_, x2, Fx.put1.trans Fx.put0⟩
      generalize hO : frO F fm _ = O at fi ⊢
      clear hO
      unfold frO at fo fo1
      simp only [Rk.D, Rk.v, Rk.w, En.w] at fi ⊢
      generalize stD s = q at st fo1 fi ⊢
      simp_arith! [F_Frame_lead, fo, st, fo1, fi]
theorem c_plain_row (n : Nat) (x : Run L M F fm m h) (hL : L.Ok) (r : Rk) (hr : match r with | .load => False | .save => False | .coin => False | .note => False | .call => False | .borrow => False | .look => False | .swap k => 1 ≤ k | _ => True)
    (hs : r.takes ≤ m.stk.length) (hl : m.stk.length ≤ 24) (hu : ∀ v ∈ m.stk, U v) :
    ∃ g, callF PR (n + 3) "Frame.plain_row" [.ref F, r.D] h = some (.ok .non, g) ∧ Run L M F fm (act go L fm r m) g ∧ Fx L F h g := by
  rw [callF_eq fn_Frame_plain_row rfl]
  have fo := x.fo
  have st := x.st
  have ln := stD_len m.stk
  have ma : ∀ r, (∃ v, r = Rk.push v) ∨ r = .drop ∨ (∃ k, r = .copy k) ∨ (∃ k, r = .swap k ∧ 1 ≤ k) → r.takes ≤ m.stk.length → act go L fm r m = { m with stk := (act go L fm r m).stk } := by
    intro r hr hs
    rcases hr with ⟨v, rfl⟩ | rfl | ⟨k, rfl⟩ | ⟨k, rfl, k1⟩
    · rfl
    · match hk : m.stk, hs with
      | t :: s, _ => unfold act; rw [hk]
    · rfl
    · match hk : m.stk, hs with
      | t :: s, _ => unfold act; rw [hk]
  cases r with
  | push v =>
    have e := c_move_about (n + 1) x (.push v) go (.inl ⟨v, rfl⟩) hs hl
    rw [ma (.push v) (.inl ⟨v, rfl⟩) hs]
    refine ⟨_, ?_, x.stk hL _, Fx.put1⟩
    unfold frO at fo
    generalize (act go L fm (.push v) m).stk = q at e ⊢
    simp only [Rk.D, Rk.v, Rk.w] at e ⊢
    simp_arith! [F_Frame_plain_row, fo, e]
  | drop =>
    have e := c_move_about (n + 1) x .drop go (.inr (.inl rfl)) hs hl
    rw [ma .drop (.inr (.inl rfl)) hs]
    refine ⟨_, ?_, x.stk hL _, Fx.put1⟩
    unfold frO at fo
    generalize (act go L fm .drop m).stk = q at e ⊢
    simp only [Rk.D, Rk.v, Rk.w] at e ⊢
    simp_arith! [F_Frame_plain_row, fo, e]
  | copy k =>
    have e := c_move_about (n + 1) x (.copy k) go (.inr (.inr (.inl ⟨k, rfl⟩))) hs hl
    rw [ma (.copy k) (.inr (.inr (.inl ⟨k, rfl⟩))) hs]
    refine ⟨_, ?_, x.stk hL _, Fx.put1⟩
    unfold frO at fo
    generalize (act go L fm (.copy k) m).stk = q at e ⊢
    simp only [Rk.D, Rk.v, Rk.w] at e ⊢
    simp_arith! [F_Frame_plain_row, fo, e]
  | swap k =>
    have e := c_move_about (n + 1) x (.swap k) go (.inr (.inr (.inr ⟨k, rfl, hr⟩))) hs hl
    rw [ma (.swap k) (.inr (.inr (.inr ⟨k, rfl, hr⟩))) hs]
    refine ⟨_, ?_, x.stk hL _, Fx.put1⟩
    unfold frO at fo
    generalize (act go L fm (.swap k) m).stk = q at e ⊢
    simp only [Rk.D, Rk.v, Rk.w] at e ⊢
    simp_arith! [F_Frame_plain_row, fo, e]
  | jump k =>
    obtain ⟨g, e, X, f⟩ := c_lead (go := go) n x hL (.jump k) (.inl ⟨k, rfl⟩) hs
    refine ⟨g, ?_, X, f⟩
    unfold frO at fo
    simp only [Rk.D, Rk.v, Rk.w] at e ⊢
    simp_arith! [F_Frame_plain_row, fo, e]
  | jumpif k =>
    obtain ⟨g, e, X, f⟩ := c_lead (go := go) n x hL (.jumpif k) (.inr (.inl ⟨k, rfl⟩)) hs
    refine ⟨g, ?_, X, f⟩
    unfold frO at fo
    simp only [Rk.D, Rk.v, Rk.w] at e ⊢
    simp_arith! [F_Frame_plain_row, fo, e]
  | give =>
    obtain ⟨g, e, X, f⟩ := c_lead (go := go) n x hL .give (.inr (.inr (.inl rfl))) hs
    refine ⟨g, ?_, X, f⟩
    unfold frO at fo
    simp only [Rk.D, Rk.v, Rk.w] at e ⊢
    simp_arith! [F_Frame_plain_row, fo, e]
  | fail =>
    obtain ⟨g, e, X, f⟩ := c_lead (go := go) n x hL .fail (.inr (.inr (.inr rfl))) hs
    refine ⟨g, ?_, X, f⟩
    unfold frO at fo
    simp only [Rk.D, Rk.v, Rk.w] at e ⊢
    simp_arith! [F_Frame_plain_row, fo, e]
  | me =>
    have e := c_place (n + 1) x "me" fm.who (.inl ⟨rfl, rfl⟩)
    refine ⟨_, ?_, x.stk hL (fm.who :: m.stk), Fx.put1⟩
    unfold frO at fo
    rw [stD_cons]
    generalize stD m.stk = q at st ln ⊢
    have l2 : q.length < 1000000 := by omega
    simp only [Rk.D, Rk.v, Rk.w]
    simp_arith! [F_Frame_plain_row, fo, st, e, l2]
  | from_ =>
    have e := c_place (n + 1) x "from" fm.caller (.inr (.inl ⟨rfl, rfl⟩))
    refine ⟨_, ?_, x.stk hL (fm.caller :: m.stk), Fx.put1⟩
    unfold frO at fo
    rw [stD_cons]
    generalize stD m.stk = q at st ln ⊢
    have l2 : q.length < 1000000 := by omega
    simp only [Rk.D, Rk.v, Rk.w]
    simp_arith! [F_Frame_plain_row, fo, st, e, l2]
  | sent =>
    have e := c_place (n + 1) x "sent" fm.coin (.inr (.inr (.inl ⟨rfl, rfl⟩)))
    refine ⟨_, ?_, x.stk hL (fm.coin :: m.stk), Fx.put1⟩
    unfold frO at fo
    rw [stD_cons]
    generalize stD m.stk = q at st ln ⊢
    have l2 : q.length < 1000000 := by omega
    simp only [Rk.D, Rk.v, Rk.w]
    simp_arith! [F_Frame_plain_row, fo, st, e, l2]
  | word =>
    have e := c_place (n + 1) x "word" fm.word (.inr (.inr (.inr ⟨rfl, rfl⟩)))
    refine ⟨_, ?_, x.stk hL (fm.word :: m.stk), Fx.put1⟩
    unfold frO at fo
    rw [stD_cons]
    generalize stD m.stk = q at st ln ⊢
    have l2 : q.length < 1000000 := by omega
    simp only [Rk.D, Rk.v, Rk.w]
    simp_arith! [F_Frame_plain_row, fo, st, e, l2]
  | sum w =>
    match hk : m.stk, hs with
    | b :: a :: s, _ =>
      rw [hk] at hu hl ln
      rw [hk, stD_cons, stD_cons] at st
      have ub := hu b (by simp)
      have ua := hu a (by simp)
      have rk := fun g => c_reckon n w a b g ua ub
      have ea : act go L fm (.sum w) m = { m with stk := w.op a b :: s } := by unfold act; rw [hk]
      rw [ea]
      refine ⟨_, ?_, x.stk hL (w.op a b :: s), Fx.put1⟩
      unfold frO at fo
      rw [stD_cons]
      have ls := stD_len s
      simp only [List.length_cons] at hl
      generalize stD s = q at st ls ⊢
      have l2 : q.length < 1000000 := by omega
      obtain ⟨q1, h1⟩ : ∃ q1, q ++ [D.int a] = q1 := ⟨_, rfl⟩
      rw [h1] at st
      have p1 := popO_q h1
      cases w <;> (simp only [Rk.D, Rk.v, Rk.w, Sm.w] at rk ⊢; generalize Sm.op _ a b = v at rk ⊢; simp_arith! [F_Frame_plain_row, fo, st, rk, l2, p1])
  | load => exact hr.elim
  | save => exact hr.elim
  | coin => exact hr.elim
  | note => exact hr.elim
  | call => exact hr.elim
  | borrow => exact hr.elim
  | look => exact hr.elim
end

--CUT
section
variable {L : Lay} {M F : Nat} {fm : Fm} {m : MS} {h : Hm} {go : Fm → S → List Dd → MS}
theorem c_save_init (n A : Nat) (i p o v : Int) (h : Hm) (hA : h.get A = some (.ins "Save" [])) : callF PR (n + 1) "Save.__init__" [.ref A, .int i, .int p, .int o, .int v] h = some (.ok .non, h.put A (objD (.save i p o v))) := by
  rw [callF_eq fn_Save_init rfl]
  simp_arith! [F_Save_init, hA, objD]
theorem c_note_init (n A : Nat) (i v : Int) (h : Hm) (hA : h.get A = some (.ins "Note" [])) : callF PR (n + 1) "Note.__init__" [.ref A, .int i, .int v] h = some (.ok .non, h.put A (objD (.note i v))) := by
  rw [callF_eq fn_Note_init rfl]
  simp_arith! [F_Note_init, hA, objD]
theorem c_move_init (n A : Nat) (i j v : Int) (h : Hm) (hA : h.get A = some (.ins "Move" [])) : callF PR (n + 1) "Move.__init__" [.ref A, .int i, .int j, .int v] h = some (.ok .non, h.put A (objD (.move i j v))) := by
  rw [callF_eq fn_Move_init rfl]
  simp_arith! [F_Move_init, hA, objD]
theorem c_record (n a b : Nat) (d : Dd) (x : Run L M F fm m h) (hL : L.Ok) (la : L.B ≤ a) (lh : a < h.next) (na : a ≠ F ∧ a ≠ F + 1 ∧ a ≠ F + 2) (ho : h.get a = some (objD d)) (hd : d.ok L)
    (hj : m.js.length < 900000) (hb : b < 900000) (hs : Sml b m.s) (hst : m.steps.length < 900000) :
    ∃ g, callF PR (n + 4) "Machine.record" [.ref M, .ref F, .ref a] h = some (.ok .non, g) ∧ Run L M F fm (m.wr d) g ∧ Fx L F h g := by
  rw [callF_eq fn_Machine_record rfl]
  have kk := hL.kk
  obtain ⟨m1, m2, m3, m4, m5⟩ := x.lM
  obtain ⟨f1, f2⟩ := x.lF
  obtain ⟨as, J, ja, av⟩ := x.jn
  obtain ⟨ds, sp, rs⟩ := x.sp
  have asl : as.length < 900000 := by rw [← ja, List.length_map] at hj; exact hj
  obtain ⟨g1, e1, J1, n1, o1⟩ := c_write n a b d J hL la lh ho hd asl hb hs
  have ns : ∀ b, L.B ≤ b → g1.get b = h.get b := fun b hb => o1 b (fun z => by have := Lay.ShB hL z; omega) (by omega)
  have jo := J.jo
  have mo := x.mo
  have fo := x.fo
  have fo1 : g1.get F = some (frO F fm m) := (ns F f1).trans fo
  have sp1 : g1.get (F + 2) = some (.lst ds) := (ns _ (by omega)).trans sp
  have ho1 : g1.get a = some (objD d) := (ns a la).trans ho
  have te := c_tellm (n + 2) a d g1 ho1
  have dl : ds.length < 1000000 := by rw [rs.len]; omega
  have rs1 : RSps g1 (F + 3) m.steps ds := RSps.mono (Nat.le_refl _) (by omega) (fun b hb _ => ns b (by omega)) rs
  refine ⟨g1.put (F + 2) (.lst (ds ++ [tellD d])), ?_, ?_, ?_⟩
  · unfold frO at fo fo1
    cases d with
    | move i j q =>
      unfold objD at ho ho1
      simp only [Dd.teN] at te
      simp_arith! [F_Machine_record, mo, jo, ho, e1, fo, fo1, sp1, ho1, te, dl]
    | save i p o q =>
      unfold objD at ho ho1
      simp only [Dd.teN] at te
      simp_arith! [F_Machine_record, mo, jo, ho, e1, fo, fo1, sp1, ho1, te, dl]
    | note i q =>
      unfold objD at ho ho1
      simp only [Dd.teN] at te
      simp_arith! [F_Machine_record, mo, jo, ho, e1, fo, fo1, sp1, ho1, te, dl]
  · refine ⟨?_, ?_, ?_, ⟨_, by rw [put_get, if_pos rfl], (rs1.snoc (.deed d)).put (by omega)⟩, ⟨as ++ [(a, d)], ?_, ?_, ?_⟩, ?_, ?_⟩
    · rw [put_get_ne m5, ns M m1]; exact mo
    · rw [put_get_ne (by omega)]; exact fo1
    · rw [put_get_ne (by omega), ns _ (by omega)]; exact x.st
    · refine J1.keep hL (Nat.le_refl _) (fun b hb => put_get_ne (by omega)) fun y hy => put_get_ne ?_
      rcases List.mem_append.mp hy with hy | hy
      · exact (av y hy).2.2
      · rw [List.mem_singleton.mp hy]; exact na.2.2
    · rw [List.map_append, ja]; rfl
    · intro y hy
      rcases List.mem_append.mp hy with hy | hy
      · exact av y hy
      · rw [List.mem_singleton.mp hy]; exact na
    · exact ⟨m1, by rw [put_next]; omega, m3, m4, m5⟩
    · exact ⟨f1, by rw [put_next]; omega⟩
  · refine ⟨by rw [put_next]; omega, fun b hb h1 h2 h3 h4 h5 => ?_⟩
    rw [put_get_ne h5]; exact o1 b h1 h2
theorem Run.made (x : Run L M F fm m h) (hL : L.Ok) (o : O) : Run L M F fm m (h.new o) ∧ L.B ≤ h.next ∧ h.next < (h.new o).next ∧ (h.next ≠ F ∧ h.next ≠ F + 1 ∧ h.next ≠ F + 2) ∧ (h.new o).get h.next = some o := by
  obtain ⟨f1, f2⟩ := x.lF
  exact ⟨x.gro hL .new, by omega, Nat.lt_succ_self _, by omega, by rw [new_get, if_pos rfl]⟩
structure Big (b : Nat) (m : MS) : Prop where
  js : m.js.length < 900000
  bb : b < 900000
  sm : Sml b m.s
  st : m.steps.length < 900000
theorem Run.pop (x : Run L M F fm m h) (hL : L.Ok) (hw : L.on fm.who = true) (s : List Int) : ∃ hp X, h.put (F + 1) (.lst (stD s)) = hp ∧ Run L M F fm { m with stk := s } hp ∧ Fx L F h hp ∧ hp.get M = some (.ins "Machine" [("rooms", .ref L.RM), ("journal", .ref L.J)]) ∧ hp.get F = some (frO F fm m) ∧ hp.get (F + 1) = some (.lst (stD s)) ∧ hp.get L.RM = some (.lst X) ∧ atD X fm.who = some (.ref (L.ad fm.who)) ∧ hp.get (L.ad fm.who) = some (L.aco m.s fm.who) ∧ ∀ o, hp.put (F + 1) o = h.put (F + 1) o := by
  have x1 := x.stk hL s
  obtain ⟨as1, J1, _⟩ := x1.jn
  exact ⟨_, L.rm, rfl, x1, Fx.put1, x1.mo, x1.fo, x1.st, J1.hr.rm, Lay.rm_on hL hw, J1.hr.ac fm.who hw, fun o => put_twice⟩
theorem c_done_load (n : Nat) (x : Run L M F fm m h) (hL : L.Ok) (hw : L.on fm.who = true) (hs : 1 ≤ m.stk.length) (hl : m.stk.length ≤ 24) :
    ∃ g, callF PR (n + 6) "Machine.done" [.ref M, .ref F, Rk.load.D] h = some (.ok .non, g) ∧ Run L M F fm (act go L fm .load m) g ∧ Fx L F h g := by
  rw [callF_eq fn_Machine_done rfl]
  have mo := x.mo
  have fo := x.fo
  have st := x.st
  match hk : m.stk, hs with
  | p :: s, _ =>
    rw [hk, stD_cons] at st
    rw [hk] at hl
    simp only [List.length_cons] at hl
    obtain ⟨hp, X, hhp, x1, f1, mo1, fo1, st1, rm, ri, ai, pp⟩ := x.pop hL hw s
    obtain ⟨as1, J1, _⟩ := x1.jn
    have ld := c_loaded (n + 4) fm.who p J1.hr hw
    dsimp only at ld
    obtain ⟨as0, J0, _⟩ := x.jn
    have rm0 := J0.hr.rm
    have ri0 := Lay.rm_on hL hw
    have ai0 := J0.hr.ac fm.who hw
    unfold Lay.aco acO at ai0
    generalize L.rm = X0 at rm0 ri0
    have ea : act go L fm .load m = { m with stk := m.s.f fm.who p :: s } := by unfold act; rw [hk]
    rw [ea]
    refine ⟨_, ?_, x.stk hL (m.s.f fm.who p :: s), Fx.put1⟩
    rw [stD_cons]
    have ls := stD_len s
    unfold Lay.aco acO at ai
    unfold frO at fo fo1
    simp only [Rk.D, Rk.v, Rk.w]
    generalize stD s = q at st ls st1 hhp ⊢
    have l2 : q.length < 1000000 := by omega
    simp_arith! [F_Machine_done, mo, fo, st, hhp, mo1, fo1, st1, rm, ri, ai, ld, l2, pp, rm0, ri0, ai0]
theorem c_done_save (n b : Nat) (x : Run L M F fm m h) (hL : L.Ok) (hw : L.on fm.who = true) (hs : 2 ≤ m.stk.length) (hb : Big b m) :
    ∃ g, callF PR (n + 6) "Machine.done" [.ref M, .ref F, Rk.save.D] h = some (.ok .non, g) ∧ Run L M F fm (act go L fm .save m) g ∧ Fx L F h g := by
  rw [callF_eq fn_Machine_done rfl]
  have mo := x.mo
  have fo := x.fo
  have st := x.st
  match hk : m.stk, hs with
  | v :: p :: s, _ =>
    rw [hk, stD_cons, stD_cons] at st
    obtain ⟨hp, X, hhp, x1, f1, mo1, fo1, st1, rm, ri, ai, pp⟩ := x.pop hL hw s
    obtain ⟨as1, J1, _⟩ := x1.jn
    have ld := c_loaded (n + 4) fm.who p J1.hr hw
    have ea : act go L fm .save m = { m with stk := s }.wr (.save fm.who p (m.s.f fm.who p) v) := by unfold act; rw [hk]
    rw [ea]
    obtain ⟨x2, q1, q2, q3, q4⟩ := x1.made hL (objD (.save fm.who p (m.s.f fm.who p) v))
    obtain ⟨g, e, X2, f⟩ := c_record (n + 1) _ b (.save fm.who p (m.s.f fm.who p) v) x2 hL q1 q2 q3 q4 hw hb.js hb.bb hb.sm hb.st
    refine ⟨g, ?_, X2, (f1.trans (Fx.gro .new)).trans f⟩
    have si := c_save_init (n + 4) hp.next fm.who p (m.s.f fm.who p) v (hp.new (.ins "Save" [])) (by rw [new_get, if_pos rfl])
    rw [show (hp.new (.ins "Save" [])).put hp.next (objD (.save fm.who p (m.s.f fm.who p) v)) = hp.new (objD (.save fm.who p (m.s.f fm.who p) v)) from new_put ..] at si
    generalize hp.new (objD (.save fm.who p (m.s.f fm.who p) v)) = hn at si e
    unfold Lay.aco acO at ai
    unfold frO at fo fo1
    dsimp only at ld
    simp only [Rk.D, Rk.v, Rk.w]
    generalize m.s.f fm.who p = vv at ld si
    generalize stD s = q at st st1 hhp
    obtain ⟨q1, h1⟩ : ∃ q1, q ++ [D.int p] = q1 := ⟨_, rfl⟩
    rw [h1] at st
    have p1 := popO_q h1
    simp_arith! [F_Machine_done, mo, fo, st, hhp, mo1, fo1, rm, ri, ai, ld, p1, si, e]
theorem c_done_note (n b : Nat) (x : Run L M F fm m h) (hL : L.Ok) (hw : L.on fm.who = true) (hs : 1 ≤ m.stk.length) (hb : Big b m) :
    ∃ g, callF PR (n + 6) "Machine.done" [.ref M, .ref F, Rk.note.D] h = some (.ok .non, g) ∧ Run L M F fm (act go L fm .note m) g ∧ Fx L F h g := by
  rw [callF_eq fn_Machine_done rfl]
  have mo := x.mo
  have fo := x.fo
  have st := x.st
  match hk : m.stk, hs with
  | v :: s, _ =>
    rw [hk, stD_cons] at st
    obtain ⟨hp, X, hhp, x1, f1, mo1, fo1, st1, rm, ri, ai, pp⟩ := x.pop hL hw s
    have ea : act go L fm .note m = { m with stk := s }.wr (.note fm.who v) := by unfold act; rw [hk]
    rw [ea]
    obtain ⟨x2, q1, q2, q3, q4⟩ := x1.made hL (objD (.note fm.who v))
    obtain ⟨g, e, X2, f⟩ := c_record (n + 1) _ b (.note fm.who v) x2 hL q1 q2 q3 q4 hw hb.js hb.bb hb.sm hb.st
    refine ⟨g, ?_, X2, (f1.trans (Fx.gro .new)).trans f⟩
    have si := c_note_init (n + 4) hp.next fm.who v (hp.new (.ins "Note" [])) (by rw [new_get, if_pos rfl])
    rw [show (hp.new (.ins "Note" [])).put hp.next (objD (.note fm.who v)) = hp.new (objD (.note fm.who v)) from new_put ..] at si
    generalize hp.new (objD (.note fm.who v)) = hn at si e
    unfold frO at fo fo1
    simp only [Rk.D, Rk.v, Rk.w]
    generalize stD s = q at st st1 hhp
    simp_arith! [F_Machine_done, mo, fo, st, hhp, mo1, fo1, si, e]
theorem c_done_coin (n : Nat) (x : Run L M F fm m h) (hL : L.Ok) (hw : L.on fm.who = true) (hs : 1 ≤ m.stk.length) (hl : m.stk.length ≤ 24) (hu : ∀ v ∈ m.stk, U v) :
    ∃ g, callF PR (n + 6) "Machine.done" [.ref M, .ref F, Rk.coin.D] h = some (.ok .non, g) ∧ Run L M F fm (act go L fm .coin m) g ∧ Fx L F h g := by
  rw [callF_eq fn_Machine_done rfl]
  have mo := x.mo
  have fo := x.fo
  have st := x.st
  match hk : m.stk, hs with
  | i :: s, _ =>
    rw [hk, stD_cons] at st
    rw [hk] at hl hu
    simp only [List.length_cons] at hl
    obtain ⟨i0, i1⟩ := hu i (by simp)
    obtain ⟨hp, X, hhp, x1, f1, mo1, fo1, st1, rm, ri, ai, pp⟩ := x.pop hL hw s
    obtain ⟨as1, J1, _⟩ := x1.jn
    have ea : act go L fm .coin m = { m with stk := (if L.on i = true then m.s.c i else 0) :: s } := by unfold act; rw [hk]
    rw [ea]
    refine ⟨_, ?_, x.stk hL ((if L.on i = true then m.s.c i else 0) :: s), Fx.put1⟩
    rw [stD_cons]
    have ls := stD_len s
    unfold frO at fo fo1
    simp only [Rk.D, Rk.v, Rk.w]
    cases hon : L.on i with
    | true =>
      have ac := c_account_on (n + 4) x1 hL hon
      have ai2 := J1.hr.ac i hon
      unfold Lay.aco acO at ai2
      generalize stD s = q at st ls st1 hhp ⊢
      have l2 : q.length < 1000000 := by omega
      simp_arith! [F_Machine_done, mo, fo, st, hhp, mo1, fo1, st1, ac, ai2, l2, pp]
    | false =>
      have ac := c_account_off (n + 4) x1 i0 hon
      generalize stD s = q at st ls st1 hhp ⊢
      have l2 : q.length < 1000000 := by omega
      simp_arith! [F_Machine_done, mo, fo, st, hhp, mo1, fo1, st1, ac, l2, pp]
end

--CUT
section
variable {L : Lay} {M F : Nat} {fm : Fm} {m : MS} {h : Hm} {go : Fm → S → List Dd → MS}
theorem new_get_at (h : Hm) (o : O) : (h.new o).get h.next = some o := by rw [new_get, if_pos rfl]
theorem c_frame_init (n A : Nat) (k : Kd) (who whose caller coin word : Int) (h : Hm) (hA : h.get A = some (.ins "Frame" [])) (hn : h.next = A + 1) (s : S) (js : List Dd) :
    callF PR (n + 1) "Frame.__init__" [.ref A, .str (Str.ofString k.w), .int who, .int whose, .int caller, .int coin, .int word] h = some (.ok .non, ((h.put A (frO A ⟨k, who, whose, caller, coin, word, 0, 1, decide (k = .look)⟩ (MS.start s js .run))).new (.lst [])).new (.lst [])) := by
  rw [callF_eq fn_Frame_init rfl]
  have lA : A < h.next := by omega
  have ne : ¬ A = h.next := by omega
  have ne1 : ¬ A = h.next + 1 := by omega
  have e1 : A + 1 = h.next := by omega
  have e2 : A + 2 = h.next + 1 := by omega
  unfold frO
  rw [e1, e2]
  cases k <;> (simp only [Kd.w, MS.start, En.w]; simp_arith! [F_Frame_init, hA, lA, ne, ne1]; try rfl)
def laid (h : Hm) (f : Fm) (m : MS) : Hm := ((h.new (frO h.next f m)).new (.lst [])).new (.lst [])
theorem laid_gro (h : Hm) (f : Fm) (m : MS) : Gro h (laid h f m) := (Gro.new.trans .new).trans .new
theorem laid_next (h : Hm) (f : Fm) (m : MS) : (laid h f m).next = h.next + 3 := rfl
theorem laid_at (h : Hm) (f : Fm) (m : MS) : (laid h f m).get h.next = some (frO h.next f m) := by
  unfold laid; rw [new_get_lt (by simp only [new_next]; omega), new_get_lt (by simp only [new_next]; omega), new_get_at]
theorem laid_at1 (h : Hm) (f : Fm) (m : MS) : (laid h f m).get (h.next + 1) = some (.lst []) := by
  unfold laid; rw [new_get_lt (by simp only [new_next]; omega)]; exact new_get_at (h.new (frO h.next f m)) _
theorem laid_at2 (h : Hm) (f : Fm) (m : MS) : (laid h f m).get (h.next + 2) = some (.lst []) := new_get_at ((h.new (frO h.next f m)).new (.lst [])) _
theorem laid_put (h : Hm) (f f' : Fm) (m m' : MS) : (laid h f m).put h.next (frO h.next f' m') = laid h f' m' := by
  unfold laid
  rw [new_put_lt (by simp only [new_next]; omega), new_put_lt (by simp only [new_next]; omega), new_put]
theorem Run.inner (x : Run L M F fm m h) (hL : L.Ok) (f : Fm) (e : En) : Run L M h.next f (MS.start m.s m.js e) (laid h f (MS.start m.s m.js e)) := by
  obtain ⟨m1, m2, m3, m4, m5⟩ := x.lM
  obtain ⟨f1, f2⟩ := x.lF
  obtain ⟨as, J, ja, av⟩ := x.jn
  have g := laid_gro h f (MS.start m.s m.js e)
  refine ⟨g.get x.mo m2, laid_at .., laid_at1 .., ⟨[], laid_at2 .., .nil⟩, ⟨as, J.gro hL g, ja, fun y hy => ?_⟩, ⟨m1, by rw [laid_next]; omega, by omega, by omega, by omega⟩, by omega, by rw [laid_next]; omega⟩
  have := (J.ob y hy).2.1
  exact ⟨by omega, by omega, by omega⟩
theorem ic_tail (n : Nat) (hp : Hm) (f1 : Fm) (m' : MS) (fo : hp.get F = some (frO F fm m)) (lF : F < hp.next) (K : D) (i c a w : Int) (o6 : Option D) :
    endF (ex PR (callF PR (n + 1)) (F_Machine_inner_call.body.from 6) [some (.ref M), some (.ref F), some K, some (.int w), some (.int a), some (.int c), some (.int i), some (.ref hp.next)] (laid hp f1 m')) =
      some (.ok (.tup [.ref hp.next, .int i, .int a]), laid hp { f1 with depth := fm.depth + 1, still := f1.still || fm.still } m') := by
  obtain ⟨G1, h1⟩ : ∃ G1, laid hp f1 m' = G1 := ⟨_, rfl⟩
  obtain ⟨G2, h2⟩ : ∃ G2, laid hp { f1 with depth := fm.depth + 1 } m' = G2 := ⟨_, rfl⟩
  obtain ⟨G3, h3⟩ : ∃ G3, laid hp { f1 with depth := fm.depth + 1, still := f1.still || fm.still } m' = G3 := ⟨_, rfl⟩
  have a1 := (laid_gro hp f1 m').get fo lF
  have b1 := laid_at hp f1 m'
  have p1 := laid_put hp f1 { f1 with depth := fm.depth + 1 } m' m'
  have a2 := (laid_gro hp { f1 with depth := fm.depth + 1 } m').get fo lF
  have b2 := laid_at hp { f1 with depth := fm.depth + 1 } m'
  have p2 := laid_put hp { f1 with depth := fm.depth + 1 } { f1 with depth := fm.depth + 1, still := f1.still || fm.still } m' m'
  rw [h1] at a1 b1 p1 ⊢
  rw [h2] at a2 b2 p1 p2
  rw [h3] at p2 ⊢
  unfold frO at a1 b1 p1 a2 b2 p2
  dsimp only at p1 b2 p2
  generalize hp.next = A at *
  clear h1 h2 h3 fo lF
  cases hb : f1.still with
  | true =>
    rw [hb] at b1 p1 b2 p2
    simp only [Bool.true_or] at p2
    simp_arith! [F_Machine_inner_call, Z.S.from, Z.S.tl, a1, b1, p1, a2, b2, p2]
  | false =>
    rw [hb] at b1 p1 b2 p2
    simp only [Bool.false_or] at p2
    simp_arith! [F_Machine_inner_call, Z.S.from, Z.S.tl, a1, b1, p1, a2, b2, p2]
theorem c_inner_call (n : Nat) (x : Run L M F fm m h) (hL : L.Ok) (k : Kd) (i c a w : Int) (s : List Int) (hk : m.stk = if k = .call then w :: a :: c :: i :: s else w :: a :: i :: s) (hc : k ≠ .call → c = 0) :
    callF PR (n + 2) "Machine.inner_call" [.ref M, .ref F, .str (Str.ofString k.w)] h = some (.ok (.tup [.ref h.next, .int i, .int a]), laid (h.put (F + 1) (.lst (stD s))) (inner fm k i c w) (MS.start m.s m.js .run)) := by
  rw [callF_eq fn_Machine_inner_call rfl]
  have lF := x.lF
  have fo := x.fo
  have st := x.st
  have x1 := x.stk hL s
  have fo1 := x1.fo
  have n1 : (h.put (F + 1) (.lst (stD s))).next = h.next := rfl
  obtain ⟨hp, hhp⟩ : ∃ hp, h.put (F + 1) (.lst (stD s)) = hp := ⟨_, rfl⟩
  rw [hhp] at fo1 n1 ⊢
  have fi := fun kk who whose caller coin word => c_frame_init (n) hp.next kk who whose caller coin word (hp.new (.ins "Frame" [])) (new_get_at ..) rfl m.s m.js
  have lp := fun f f' (m' : MS) => laid_put hp f f' m' m'
  have la := fun f (m' : MS) => laid_at hp f m'
  have nF : F ≠ hp.next := by omega
  have lF1 : F < hp.next := by omega
  have gf := fun f (m' : MS) => (laid_gro hp f m').get fo1 lF1
  rw [← n1]
  have e0 : ∀ f, ((((hp.new (.ins "Frame" [])).put hp.next (frO hp.next f (MS.start m.s m.js .run))).new (.lst [])).new (.lst [])) = laid hp f (MS.start m.s m.js .run) := fun f => by rw [new_put]; rfl
  simp only [e0] at fi
  cases k with
  | call =>
    rw [if_pos rfl] at hk
    rw [hk, stD_cons, stD_cons, stD_cons, stD_cons] at st
    have fi' := fi .call
    rw [show decide (Kd.call = Kd.look) = false from rfl] at fi'
    generalize stD s = q at st hhp
    obtain ⟨q1, h1⟩ : ∃ q1, q ++ [D.int i] = q1 := ⟨_, rfl⟩
    obtain ⟨q2, h2⟩ : ∃ q2, q1 ++ [D.int c] = q2 := ⟨_, rfl⟩
    obtain ⟨q3, h3⟩ : ∃ q3, q2 ++ [D.int a] = q3 := ⟨_, rfl⟩
    rw [h1, h2, h3] at st
    have p1 := popO_q h1
    have p2 := popO_q h2
    have p3 := popO_q h3
    have tl := ic_tail (M := M) n hp ⟨.call, i, i, fm.who, c, w, 0, 1, false⟩ (MS.start m.s m.js .run) fo1 lF1 (.str (Str.ofString "call")) i c a w none
    have fi2 := fi' i i fm.who c w
    simp only [Kd.w] at fi2 ⊢
    dsimp only [inner]
    simp only [Bool.false_or, Bool.true_or] at tl
    unfold frO at fo fo1
    have hA : (hp.new (.ins "Frame" [])).get hp.next = some (.ins "Frame" []) := new_get_at ..
    generalize hl : laid hp ⟨.call, i, i, fm.who, c, w, 0, 1, false⟩ (MS.start m.s m.js .run) = G1 at fi2 tl
    generalize laid hp _ (MS.start m.s m.js .run) = G3 at tl ⊢
    obtain ⟨A, hA2⟩ : ∃ A, hp.next = A := ⟨_, rfl⟩
    rw [hA2] at fi2 tl ⊢
    have hA := hA2
    have sp : F_Machine_inner_call.body = .seq F_Machine_inner_call.body.hd (.seq (F_Machine_inner_call.body.from 1).hd (.seq (F_Machine_inner_call.body.from 2).hd (.seq (F_Machine_inner_call.body.from 3).hd (.seq (F_Machine_inner_call.body.from 4).hd (.seq (F_Machine_inner_call.body.from 5).hd (F_Machine_inner_call.body.from 6)))))) := rfl
    have t0 : ex PR (callF PR (n + 1)) F_Machine_inner_call.body.hd (start F_Machine_inner_call.ns [.ref M, .ref F, .str (Str.ofString "call")]) h = some (.nx, [some (.ref M), some (.ref F), some (.str (Str.ofString "call")), some (.int w), none, none, none, none], (h.put (F + 1) (.lst q3))) := by simp_arith! [F_Machine_inner_call, Z.S.hd, Z.S.tl, Z.S.from, fo, st]
    have t1 : ex PR (callF PR (n + 1)) (F_Machine_inner_call.body.from 1).hd [some (.ref M), some (.ref F), some (.str (Str.ofString "call")), some (.int w), none, none, none, none] (h.put (F + 1) (.lst q3)) = some (.nx, [some (.ref M), some (.ref F), some (.str (Str.ofString "call")), some (.int w), some (.int a), none, none, none], (h.put (F + 1) (.lst q2))) := by simp_arith! [F_Machine_inner_call, Z.S.hd, Z.S.tl, Z.S.from, fo, p3]
    have t2 : ex PR (callF PR (n + 1)) (F_Machine_inner_call.body.from 2).hd [some (.ref M), some (.ref F), some (.str (Str.ofString "call")), some (.int w), some (.int a), none, none, none] (h.put (F + 1) (.lst q2)) = some (.nx, [some (.ref M), some (.ref F), some (.str (Str.ofString "call")), some (.int w), some (.int a), some (.int 0), none, none], (h.put (F + 1) (.lst q2))) := by simp_arith! [F_Machine_inner_call, Z.S.hd, Z.S.tl, Z.S.from]
    have t3 : ex PR (callF PR (n + 1)) (F_Machine_inner_call.body.from 3).hd [some (.ref M), some (.ref F), some (.str (Str.ofString "call")), some (.int w), some (.int a), some (.int 0), none, none] (h.put (F + 1) (.lst q2)) = some (.nx, [some (.ref M), some (.ref F), some (.str (Str.ofString "call")), some (.int w), some (.int a), some (.int c), none, none], (h.put (F + 1) (.lst q1))) := by simp_arith! [F_Machine_inner_call, Z.S.hd, Z.S.tl, Z.S.from, fo, p2]
    have t4 : ex PR (callF PR (n + 1)) (F_Machine_inner_call.body.from 4).hd [some (.ref M), some (.ref F), some (.str (Str.ofString "call")), some (.int w), some (.int a), some (.int c), none, none] (h.put (F + 1) (.lst q1)) = some (.nx, [some (.ref M), some (.ref F), some (.str (Str.ofString "call")), some (.int w), some (.int a), some (.int c), some (.int i), none], (h.put (F + 1) (.lst q))) := by simp_arith! [F_Machine_inner_call, Z.S.hd, Z.S.tl, Z.S.from, fo, p1]
    have t5 : ex PR (callF PR (n + 1)) (F_Machine_inner_call.body.from 5).hd [some (.ref M), some (.ref F), some (.str (Str.ofString "call")), some (.int w), some (.int a), some (.int c), some (.int i), none] hp = some (.nx, [some (.ref M), some (.ref F), some (.str (Str.ofString "call")), some (.int w), some (.int a), some (.int c), some (.int i), some (.ref A)], G1) := by simp_arith! [F_Machine_inner_call, Z.S.hd, Z.S.tl, Z.S.from, fo1, hA, fi2]
    rw [sp, seq_nx t0, seq_nx t1, seq_nx t2, seq_nx t3, seq_nx t4, hhp, seq_nx t5]
    exact tl
  | borrow =>
    have c0 := hc (by decide)
    subst c0
    rw [if_neg (by decide)] at hk
    rw [hk, stD_cons, stD_cons, stD_cons] at st
    have fi' := fi .borrow
    rw [show decide (Kd.borrow = Kd.look) = false from rfl] at fi'
    generalize stD s = q at st hhp
    obtain ⟨q1, h1⟩ : ∃ q1, q ++ [D.int i] = q1 := ⟨_, rfl⟩
    obtain ⟨q2, h2⟩ : ∃ q2, q1 ++ [D.int a] = q2 := ⟨_, rfl⟩
    rw [h1, h2] at st
    have p1 := popO_q h1
    have p2 := popO_q h2
    have tl := ic_tail (M := M) n hp ⟨.borrow, fm.who, i, fm.caller, fm.coin, w, 0, 1, false⟩ (MS.start m.s m.js .run) fo1 lF1 (.str (Str.ofString "borrow")) i 0 a w none
    have fi2 := fi' fm.who i fm.caller fm.coin w
    simp only [Kd.w] at fi2 ⊢
    dsimp only [inner]
    simp only [Bool.false_or, Bool.true_or] at tl
    unfold frO at fo fo1
    have hA : (hp.new (.ins "Frame" [])).get hp.next = some (.ins "Frame" []) := new_get_at ..
    generalize hl : laid hp ⟨.borrow, fm.who, i, fm.caller, fm.coin, w, 0, 1, false⟩ (MS.start m.s m.js .run) = G1 at fi2 tl
    generalize laid hp _ (MS.start m.s m.js .run) = G3 at tl ⊢
    obtain ⟨A, hA2⟩ : ∃ A, hp.next = A := ⟨_, rfl⟩
    rw [hA2] at fi2 tl ⊢
    have hA := hA2
    have sp : F_Machine_inner_call.body = .seq F_Machine_inner_call.body.hd (.seq (F_Machine_inner_call.body.from 1).hd (.seq (F_Machine_inner_call.body.from 2).hd (.seq (F_Machine_inner_call.body.from 3).hd (.seq (F_Machine_inner_call.body.from 4).hd (.seq (F_Machine_inner_call.body.from 5).hd (F_Machine_inner_call.body.from 6)))))) := rfl
    have t0 : ex PR (callF PR (n + 1)) F_Machine_inner_call.body.hd (start F_Machine_inner_call.ns [.ref M, .ref F, .str (Str.ofString "borrow")]) h = some (.nx, [some (.ref M), some (.ref F), some (.str (Str.ofString "borrow")), some (.int w), none, none, none, none], (h.put (F + 1) (.lst q2))) := by simp_arith! [F_Machine_inner_call, Z.S.hd, Z.S.tl, Z.S.from, fo, st]
    have t1 : ex PR (callF PR (n + 1)) (F_Machine_inner_call.body.from 1).hd [some (.ref M), some (.ref F), some (.str (Str.ofString "borrow")), some (.int w), none, none, none, none] (h.put (F + 1) (.lst q2)) = some (.nx, [some (.ref M), some (.ref F), some (.str (Str.ofString "borrow")), some (.int w), some (.int a), none, none, none], (h.put (F + 1) (.lst q1))) := by simp_arith! [F_Machine_inner_call, Z.S.hd, Z.S.tl, Z.S.from, fo, p2]
    have t2 : ex PR (callF PR (n + 1)) (F_Machine_inner_call.body.from 2).hd [some (.ref M), some (.ref F), some (.str (Str.ofString "borrow")), some (.int w), some (.int a), none, none, none] (h.put (F + 1) (.lst q1)) = some (.nx, [some (.ref M), some (.ref F), some (.str (Str.ofString "borrow")), some (.int w), some (.int a), some (.int 0), none, none], (h.put (F + 1) (.lst q1))) := by simp_arith! [F_Machine_inner_call, Z.S.hd, Z.S.tl, Z.S.from]
    have t3 : ex PR (callF PR (n + 1)) (F_Machine_inner_call.body.from 3).hd [some (.ref M), some (.ref F), some (.str (Str.ofString "borrow")), some (.int w), some (.int a), some (.int 0), none, none] (h.put (F + 1) (.lst q1)) = some (.nx, [some (.ref M), some (.ref F), some (.str (Str.ofString "borrow")), some (.int w), some (.int a), some (.int 0), none, none], (h.put (F + 1) (.lst q1))) := by simp_arith! [F_Machine_inner_call, Z.S.hd, Z.S.tl, Z.S.from]
    have t4 : ex PR (callF PR (n + 1)) (F_Machine_inner_call.body.from 4).hd [some (.ref M), some (.ref F), some (.str (Str.ofString "borrow")), some (.int w), some (.int a), some (.int 0), none, none] (h.put (F + 1) (.lst q1)) = some (.nx, [some (.ref M), some (.ref F), some (.str (Str.ofString "borrow")), some (.int w), some (.int a), some (.int 0), some (.int i), none], (h.put (F + 1) (.lst q))) := by simp_arith! [F_Machine_inner_call, Z.S.hd, Z.S.tl, Z.S.from, fo, p1]
    have t5 : ex PR (callF PR (n + 1)) (F_Machine_inner_call.body.from 5).hd [some (.ref M), some (.ref F), some (.str (Str.ofString "borrow")), some (.int w), some (.int a), some (.int 0), some (.int i), none] hp = some (.nx, [some (.ref M), some (.ref F), some (.str (Str.ofString "borrow")), some (.int w), some (.int a), some (.int 0), some (.int i), some (.ref A)], G1) := by simp_arith! [F_Machine_inner_call, Z.S.hd, Z.S.tl, Z.S.from, fo1, hA, fi2]
    rw [sp, seq_nx t0, seq_nx t1, seq_nx t2, seq_nx t3, seq_nx t4, hhp, seq_nx t5]
    exact tl
  | look =>
    have c0 := hc (by decide)
    subst c0
    rw [if_neg (by decide)] at hk
    rw [hk, stD_cons, stD_cons, stD_cons] at st
    have fi' := fi .look
    rw [show decide (Kd.look = Kd.look) = true from rfl] at fi'
    generalize stD s = q at st hhp
    obtain ⟨q1, h1⟩ : ∃ q1, q ++ [D.int i] = q1 := ⟨_, rfl⟩
    obtain ⟨q2, h2⟩ : ∃ q2, q1 ++ [D.int a] = q2 := ⟨_, rfl⟩
    rw [h1, h2] at st
    have p1 := popO_q h1
    have p2 := popO_q h2
    have tl := ic_tail (M := M) n hp ⟨.look, i, i, fm.who, 0, w, 0, 1, true⟩ (MS.start m.s m.js .run) fo1 lF1 (.str (Str.ofString "look")) i 0 a w none
    have fi2 := fi' i i fm.who 0 w
    simp only [Kd.w] at fi2 ⊢
    dsimp only [inner]
    simp only [Bool.false_or, Bool.true_or] at tl
    unfold frO at fo fo1
    have hA : (hp.new (.ins "Frame" [])).get hp.next = some (.ins "Frame" []) := new_get_at ..
    generalize hl : laid hp ⟨.look, i, i, fm.who, 0, w, 0, 1, true⟩ (MS.start m.s m.js .run) = G1 at fi2 tl
    generalize laid hp _ (MS.start m.s m.js .run) = G3 at tl ⊢
    obtain ⟨A, hA2⟩ : ∃ A, hp.next = A := ⟨_, rfl⟩
    rw [hA2] at fi2 tl ⊢
    have hA := hA2
    have sp : F_Machine_inner_call.body = .seq F_Machine_inner_call.body.hd (.seq (F_Machine_inner_call.body.from 1).hd (.seq (F_Machine_inner_call.body.from 2).hd (.seq (F_Machine_inner_call.body.from 3).hd (.seq (F_Machine_inner_call.body.from 4).hd (.seq (F_Machine_inner_call.body.from 5).hd (F_Machine_inner_call.body.from 6)))))) := rfl
    have t0 : ex PR (callF PR (n + 1)) F_Machine_inner_call.body.hd (start F_Machine_inner_call.ns [.ref M, .ref F, .str (Str.ofString "look")]) h = some (.nx, [some (.ref M), some (.ref F), some (.str (Str.ofString "look")), some (.int w), none, none, none, none], (h.put (F + 1) (.lst q2))) := by simp_arith! [F_Machine_inner_call, Z.S.hd, Z.S.tl, Z.S.from, fo, st]
    have t1 : ex PR (callF PR (n + 1)) (F_Machine_inner_call.body.from 1).hd [some (.ref M), some (.ref F), some (.str (Str.ofString "look")), some (.int w), none, none, none, none] (h.put (F + 1) (.lst q2)) = some (.nx, [some (.ref M), some (.ref F), some (.str (Str.ofString "look")), some (.int w), some (.int a), none, none, none], (h.put (F + 1) (.lst q1))) := by simp_arith! [F_Machine_inner_call, Z.S.hd, Z.S.tl, Z.S.from, fo, p2]
    have t2 : ex PR (callF PR (n + 1)) (F_Machine_inner_call.body.from 2).hd [some (.ref M), some (.ref F), some (.str (Str.ofString "look")), some (.int w), some (.int a), none, none, none] (h.put (F + 1) (.lst q1)) = some (.nx, [some (.ref M), some (.ref F), some (.str (Str.ofString "look")), some (.int w), some (.int a), some (.int 0), none, none], (h.put (F + 1) (.lst q1))) := by simp_arith! [F_Machine_inner_call, Z.S.hd, Z.S.tl, Z.S.from]
    have t3 : ex PR (callF PR (n + 1)) (F_Machine_inner_call.body.from 3).hd [some (.ref M), some (.ref F), some (.str (Str.ofString "look")), some (.int w), some (.int a), some (.int 0), none, none] (h.put (F + 1) (.lst q1)) = some (.nx, [some (.ref M), some (.ref F), some (.str (Str.ofString "look")), some (.int w), some (.int a), some (.int 0), none, none], (h.put (F + 1) (.lst q1))) := by simp_arith! [F_Machine_inner_call, Z.S.hd, Z.S.tl, Z.S.from]
    have t4 : ex PR (callF PR (n + 1)) (F_Machine_inner_call.body.from 4).hd [some (.ref M), some (.ref F), some (.str (Str.ofString "look")), some (.int w), some (.int a), some (.int 0), none, none] (h.put (F + 1) (.lst q1)) = some (.nx, [some (.ref M), some (.ref F), some (.str (Str.ofString "look")), some (.int w), some (.int a), some (.int 0), some (.int i), none], (h.put (F + 1) (.lst q))) := by simp_arith! [F_Machine_inner_call, Z.S.hd, Z.S.tl, Z.S.from, fo, p1]
    have t5 : ex PR (callF PR (n + 1)) (F_Machine_inner_call.body.from 5).hd [some (.ref M), some (.ref F), some (.str (Str.ofString "look")), some (.int w), some (.int a), some (.int 0), some (.int i), none] hp = some (.nx, [some (.ref M), some (.ref F), some (.str (Str.ofString "look")), some (.int w), some (.int a), some (.int 0), some (.int i), some (.ref A)], G1) := by simp_arith! [F_Machine_inner_call, Z.S.hd, Z.S.tl, Z.S.from, fo1, hA, fi2]
    rw [sp, seq_nx t0, seq_nx t1, seq_nx t2, seq_nx t3, seq_nx t4, hhp, seq_nx t5]
    exact tl
end

section
variable {L : Lay} {M F : Nat} {fm : Fm} {m : MS} {h : Hm} {go : Fm → S → List Dd → MS}
theorem c_tree_raw (n : Nat) (ds : List D) (fo : h.get F = some (frO F fm m)) (e : h.get (F + 2) = some (.lst ds)) : callF PR (n + 1) "Frame.tree" [.ref F] h = some (.ok (treeD fm m.en m.ans m.used h.next), h.new (.lst ds)) := by
  rw [callF_eq fn_Frame_tree rfl]
  unfold frO at fo
  unfold treeD
  generalize Str.ofString m.en.w = z1 at fo ⊢
  generalize Str.ofString fm.kind.w = z2 at fo ⊢
  have bt : ∀ (x1 x2 x3 x4 x5 x6 y1 y2 y3 y4 y5 : D) (g : Hm), binD .add (.tup [x1, x2, x3, x4, x5, x6]) (.tup [y1, y2, y3, y4, y5]) g = some (.ok (.tup [x1, x2, x3, x4, x5, x6, y1, y2, y3, y4, y5]), g) := fun _ _ _ _ _ _ _ _ _ _ _ g => by simp only [binD]; exact if_pos (by simp [lim])
  simp_arith! [F_Frame_tree, fo, e, bt]
theorem objD_frO {d : Dd} {F : Nat} {fm : Fm} {m : MS} : objD d ≠ frO F fm m := by
  unfold frO
  cases d <;> (unfold objD; intro z; injection z with z1 z2; exact absurd z1 (by decide))
theorem objD_lst {d : Dd} {xs : List D} : objD d ≠ .lst xs := by cases d <;> (unfold objD; intro z; cases z)
theorem Run.over {F' : Nat} {f : Fm} {r : MS} {g : Hm} (x : Run L M F fm m h) (hL : L.Ok) (y : Run L M F' f r g) (le : h.next ≤ g.next) (fx : ∀ b, b < h.next → ¬ L.Sh b → b ≠ L.K → g.get b = h.get b) : Run L M F fm { m with s := r.s, js := r.js } g := by
  obtain ⟨m1, m2, m3, m4, m5⟩ := x.lM
  obtain ⟨f1, f2⟩ := x.lF
  have kk := hL.kk
  have old : ∀ b, L.B ≤ b → b < h.next → g.get b = h.get b := fun b h1 h2 => fx b h2 (fun z => by have := Lay.ShB hL z; omega) (by omega)
  have fo : g.get F = some (frO F fm { m with s := r.s, js := r.js }) := (old F f1 (by omega)).trans x.fo
  have st : g.get (F + 1) = some (.lst (stD m.stk)) := (old _ (by omega) (by omega)).trans x.st
  obtain ⟨ds, e, rs⟩ := x.sp
  have e' : g.get (F + 2) = some (.lst ds) := (old _ (by omega) (by omega)).trans e
  obtain ⟨as, J, ja, av⟩ := y.jn
  refine ⟨y.mo, fo, st, ⟨ds, e', ?_⟩, ⟨as, J, ja, fun z hz => ?_⟩, ⟨m1, by omega, m3, m4, m5⟩, f1, by omega⟩
  · exact RSps.mono (Nat.le_refl _) le (fun b hb h1 => old b (by omega) h1) rs
  · have o := (J.ob z hz).2.2.1
    refine ⟨fun q => ?_, fun q => ?_, fun q => ?_⟩
    · rw [q, fo] at o; exact objD_frO (Option.some.inj o).symm
    · rw [q, st] at o; exact objD_lst (Option.some.inj o).symm
    · rw [q, e'] at o; exact objD_lst (Option.some.inj o).symm
abbrev BB : Z.S := F_Machine_begin.body
theorem begin_tail (n : Nat) {F' : Nat} {f : Fm} {r : MS} (x : Run L M F fm m h) (hL : L.Ok) (y : Run L M F' f r h) (lF : F + 3 ≤ F') (hs : m.s = r.s) (hj : m.js = r.js) (hst : m.steps.length < 900000) (hl : m.stk.length ≤ 22) (K v4 v5 v6 : Option D) :
    ∃ g, endF (ex PR (callF PR (n + 2)) (BB.from 3) [some (.ref M), some (.ref F), K, some (.ref F'), v4, v5, v6] h) = some (.ok .non, g) ∧ Run L M F fm (m.take f r) g ∧ Fx L F h g := by
  have sp : BB.from 3 = .seq (BB.from 3).hd (.seq (BB.from 4).hd (.seq (BB.from 5).hd (BB.from 6))) := rfl
  rw [sp]
  have ne0 : F' ≠ F := by omega
  have x1 := x.frm hL m.at_ (m.used + r.used) m.ans m.en
  obtain ⟨dy, ey, ry⟩ := y.sp
  have yo := y.fo
  obtain ⟨h1, hh1⟩ : ∃ h1, h.put F (frO F fm { m with at_ := m.at_, used := m.used + r.used, en := m.en, ans := m.ans }) = h1 := ⟨_, rfl⟩
  have yo1 : h1.get F' = some (frO F' f r) := by rw [← hh1, put_get_ne ne0]; exact yo
  have ey1 : h1.get (F' + 2) = some (.lst dy) := by rw [← hh1, put_get_ne (by omega)]; exact ey
  have ry1 : RSps h1 (F' + 3) r.steps dy := by rw [← hh1]; exact ry.put (by omega)
  have n1 : h1.next = h.next := by rw [← hh1]; rfl
  rw [hh1] at x1
  have t3 : ex PR (callF PR (n + 2)) (BB.from 3).hd [some (.ref M), some (.ref F), K, some (.ref F'), v4, v5, v6] h = some (.nx, [some (.ref M), some (.ref F), K, some (.ref F'), v4, v5, v6], h1) := by
    have fo := x.fo
    unfold frO at fo yo hh1
    simp_arith! [BB, F_Machine_begin, Z.S.hd, Z.S.tl, Z.S.from, fo, yo, hh1]
  rw [seq_nx t3]
  have te := c_tree_raw (n + 1) dy yo1 ey1
  have x2 := x1.gro hL (h' := h1.new (.lst dy)) .new
  obtain ⟨ds, ex2, rx2⟩ := x2.sp
  have lx2 : ds.length < 1000000 := by rw [rx2.len]; show m.steps.length < _; omega
  have q : RSp (h1.new (.lst dy)) (F + 3) (.sub f r.en r.ans r.used r.steps) (treeD f r.en r.ans r.used h1.next) := by
    have := x.lF
    exact .sub (by omega) (Nat.lt_succ_self _) (new_get_at ..) (RSps.mono (h := h1) (by omega) (Nat.le_succ _) (fun b _ hb => new_get_lt hb) ry1)
  have x3 := x2.stp hL ex2 rx2 q
  have fo1 := x1.fo
  have e1 : h1.get (F + 2) = some (.lst ds) := by
    have lF := x1.lF
    rw [new_get_lt (by omega)] at ex2; exact ex2
  generalize hT : treeD f r.en r.ans r.used h1.next = T at te x3
  obtain ⟨h3, hh3⟩ : ∃ h3, (h1.new (.lst dy)).put (F + 2) (.lst (ds ++ [T])) = h3 := ⟨_, rfl⟩
  have lF1 := x1.lF
  have nF2 : F + 2 ≠ h1.next := by omega
  have yo3 : h3.get F' = some (frO F' f r) := by
    have lF' := y.lF
    rw [← hh3, put_get_ne (by omega), new_get_lt (by omega)]; exact yo1
  rw [hh3] at x3
  have t4 : ex PR (callF PR (n + 2)) (BB.from 4).hd [some (.ref M), some (.ref F), K, some (.ref F'), v4, v5, v6] h1 = some (.nx, [some (.ref M), some (.ref F), K, some (.ref F'), v4, v5, v6], h3) := by
    unfold frO at fo1 yo1
    simp_arith! [BB, F_Machine_begin, Z.S.hd, Z.S.tl, Z.S.from, fo1, yo1, te, e1, nF2, lx2, hh3]
  rw [seq_nx t4]
  have fo3 := x3.fo
  have st3 := x3.st
  have x4 := x3.stk hL (r.ans :: m.stk)
  have x5 := x3.stk hL ((if r.en = .well then 1 else 0) :: r.ans :: m.stk)
  rw [stD_cons] at x4 x5
  rw [stD_cons] at x5
  have ls := stD_len m.stk
  have fo4 := x4.fo
  have st4 := x4.st
  rw [stD_cons] at st4
  have st3 : h3.get (F + 1) = some (.lst (stD m.stk)) := st3
  have st4 : (h3.put (F + 1) (.lst (stD m.stk ++ [.int r.ans]))).get (F + 1) = some (.lst (stD m.stk ++ [.int r.ans])) := st4
  have yo4 : (h3.put (F + 1) (.lst (stD m.stk ++ [.int r.ans]))).get F' = some (frO F' f r) := by rw [put_get_ne (by omega)]; exact yo3
  have pp : ∀ o, (h3.put (F + 1) (.lst (stD m.stk ++ [.int r.ans]))).put (F + 1) o = h3.put (F + 1) o := fun o => put_twice
  generalize stD m.stk = s0 at st3 st4 x5 ls fo4 yo4 pp
  have l5 : s0.length < 1000000 := by omega
  have l6 : (s0 ++ [D.int r.ans]).length < 1000000 := by rw [List.length_append]; simp; omega
  obtain ⟨h4, hh4⟩ : ∃ h4, h3.put (F + 1) (.lst (s0 ++ [.int r.ans])) = h4 := ⟨_, rfl⟩
  rw [hh4] at fo4 st4 yo4 pp
  obtain ⟨s1, hs1⟩ : ∃ s1, s0 ++ [D.int r.ans] = s1 := ⟨_, rfl⟩
  have t5 : ex PR (callF PR (n + 2)) (BB.from 5).hd [some (.ref M), some (.ref F), K, some (.ref F'), v4, v5, v6] h3 = some (.nx, [some (.ref M), some (.ref F), K, some (.ref F'), v4, v5, v6], h4) := by
    unfold frO at fo3 yo3
    simp_arith! [BB, F_Machine_begin, Z.S.hd, Z.S.tl, Z.S.from, fo3, yo3, st3, l5, hh4]
  rw [seq_nx t5]
  rw [hs1] at st4 l6 x5
  refine ⟨h3.put (F + 1) (.lst (s1 ++ [.int (if r.en = .well then 1 else 0)])), ?_, ?_, ?_⟩
  · unfold frO at fo4 yo4
    by_cases hw : r.en = .well
    · rw [hw] at yo4
      rw [if_pos hw]
      simp only [En.w] at yo4
      simp_arith! [BB, F_Machine_begin, Z.S.hd, Z.S.tl, Z.S.from, fo4, yo4, st4, l6, pp]
    · have hz : ¬ Str.ofString r.en.w = Str.ofString "well" := by
        intro z
        apply hw
        revert z
        cases r.en <;> simp [En.w]
      rw [if_neg hw]
      generalize Str.ofString r.en.w = zz at yo4 hz
      simp_arith! [BB, F_Machine_begin, Z.S.hd, Z.S.tl, Z.S.from, fo4, yo4, st4, l6, pp, hz]
  · have e : m.take f r = { m with stk := (if r.en = .well then 1 else 0) :: r.ans :: m.stk, used := m.used + r.used, steps := m.steps ++ [.sub f r.en r.ans r.used r.steps] } := by unfold MS.take; rw [← hs, ← hj]
    rw [e]
    exact x5
  · have a1 : Fx L F h h1 := by rw [← hh1]; exact Fx.put0
    have a2 : Fx L F h1 h3 := by rw [← hh3]; exact (Fx.gro .new).trans Fx.put2
    exact (a1.trans a2).trans Fx.put1
end

section
variable {L : Lay} {M F : Nat} {fm : Fm} {m : MS} {h : Hm} {go : Fm → S → List Dd → MS}
theorem inner_kind (fm : Fm) (k : Kd) (i c w : Int) : (inner fm k i c w).kind = k ∧ (inner fm k i c w).depth = fm.depth + 1 ∧ (k = .call → (inner fm k i c w).coin = c) := by cases k <;> exact ⟨rfl, rfl, fun z => by first | rfl | cases z⟩
theorem En.ne_run {e : En} (h : e ≠ .run) : ¬ Str.ofString e.w = Str.ofString "" := by cases e <;> simp [En.w] at h ⊢
def Goes (L : Lay) (M n : Nat) (go : Fm → S → List Dd → MS) (f : Fm) (s : S) (js : List Dd) : Prop := ∀ (F : Nat) (h : Hm), Run L M F f (MS.start s js .run) h → ∃ g, callF PR n "Machine.go" [.ref M, .ref F] h = some (.ok .non, g) ∧ Run L M F f (go f s js) g ∧ Fx L F h g
theorem c_begin (n : Nat) (x : Run L M F fm m h) (hL : L.Ok) (hw : L.on fm.who = true) (k : Kd) (i c a w : Int) (s : List Int) (hk : m.stk = if k = .call then w :: a :: c :: i :: s else w :: a :: i :: s) (hc : k ≠ .call → c = 0) (h0 : 0 ≤ i) (hst : m.steps.length < 900000) (hl : s.length ≤ 22)
    (hgo : unbegun L fm k i c m.s = .run → Goes L M (n + 2) go { inner fm k i c w with given := if fm.given - m.used < a then fm.given - m.used else a } m.s m.js) :
    ∃ g, callF PR (n + 3) "Machine.begin" [.ref M, .ref F, .str (Str.ofString k.w)] h = some (.ok .non, g) ∧ Run L M F fm (begin_ go L fm k i c a w { m with stk := s }) g ∧ Fx L F h g := by
  rw [callF_eq fn_Machine_begin rfl]
  have sp : F_Machine_begin.body = .seq BB.hd (.seq (BB.from 1).hd (.seq (BB.from 2).hd (BB.from 3))) := rfl
  rw [sp]
  have lF := x.lF
  have e1 := c_inner_call n x hL k i c a w s hk hc
  have x1 := x.stk hL s
  obtain ⟨hp, hhp⟩ : ∃ hp, h.put (F + 1) (.lst (stD s)) = hp := ⟨_, rfl⟩
  have np : hp.next = h.next := by rw [← hhp]; rfl
  have fp : Fx L F h hp := by rw [← hhp]; exact Fx.put1
  rw [hhp] at e1 x1
  rw [← np] at e1
  have lFp : F + 3 ≤ hp.next := by rw [np]; exact lF.2
  obtain ⟨kk, kd, kc⟩ := inner_kind fm k i c w
  generalize hf : inner fm k i c w = f at e1 kk kd kc hgo ⊢
  unfold begin_
  rw [hf]
  dsimp only
  have gr := laid_gro hp f (MS.start m.s m.js .run)
  have x2 := x1.gro hL gr
  have e2 := c_unbegun (c := c) n hp.next 0 f (MS.start m.s m.js .run) i x2 hL hw h0 (laid_at ..) kd (fun z => kc (kk ▸ z))
  rw [kk] at e2
  have ef : (laid hp f (MS.start m.s m.js .run)).get hp.next = some (frO hp.next f (MS.start m.s m.js .run)) := laid_at ..
  obtain ⟨K, hK⟩ : ∃ K, D.str (Str.ofString k.w) = K := ⟨_, rfl⟩
  rw [hK] at e1 ⊢
  generalize hA : hp.next = A at *
  have t0 : ex PR (callF PR (n + 2)) BB.hd (start F_Machine_begin.ns [.ref M, .ref F, K]) h = some (.nx, [some (.ref M), some (.ref F), some K, some (.ref A), some (.int i), some (.int a), none], laid hp f (MS.start m.s m.js .run)) := by
    have mo := x.mo
    generalize laid hp f (MS.start m.s m.js .run) = G0 at e1
    simp_arith! [BB, F_Machine_begin, Z.S.hd, Z.S.tl, Z.S.from, mo, e1, setN]
  have t1 : ex PR (callF PR (n + 2)) (BB.from 1).hd [some (.ref M), some (.ref F), some K, some (.ref A), some (.int i), some (.int a), none] (laid hp f (MS.start m.s m.js .run)) = some (.nx, [some (.ref M), some (.ref F), some K, some (.ref A), some (.int i), some (.int a), some (.str (Str.ofString (unbegun L fm k i c m.s).w))], laid hp f (MS.start m.s m.js .run)) := by
    have mo := x2.mo
    generalize laid hp f (MS.start m.s m.js .run) = G0 at e2 mo
    have e2 : callF PR (n + 2) "Machine.unbegun" [.ref M, .ref F, .ref A, .int i] G0 = some (.ok (.str (Str.ofString (unbegun L fm k i c m.s).w)), G0) := e2
    generalize Str.ofString (unbegun L fm k i c m.s).w = ee at e2
    simp_arith! [BB, F_Machine_begin, Z.S.hd, Z.S.tl, Z.S.from, mo, e2]
  rw [seq_nx t0, seq_nx t1]
  by_cases hb : unbegun L fm k i c m.s = .run
  · rw [if_pos hb]
    generalize hg : (if fm.given - m.used < a then fm.given - m.used else a) = gv at hgo ⊢
    have y := x1.inner hL { f with given := gv } .run
    rw [hA] at y
    obtain ⟨g2, e3, y2, fx2⟩ := hgo hb A _ y
    have lp := laid_put hp f { f with given := gv } (MS.start m.s m.js .run) (MS.start m.s m.js .run)
    rw [hA] at lp
    have fo2 := x2.fo
    have mo2 := x2.mo
    have mo3 := y.mo
    have t2 : ex PR (callF PR (n + 2)) (BB.from 2).hd [some (.ref M), some (.ref F), some K, some (.ref A), some (.int i), some (.int a), some (.str (Str.ofString (unbegun L fm k i c m.s).w))] (laid hp f (MS.start m.s m.js .run)) = some (.nx, [some (.ref M), some (.ref F), some K, some (.ref A), some (.int i), some (.int a), some (.str (Str.ofString (unbegun L fm k i c m.s).w))], g2) := by
      rw [hb]
      unfold frO at ef lp fo2
      dsimp only at lp mo3
      generalize laid hp f (MS.start m.s m.js .run) = G0 at ef lp fo2 mo2
      generalize laid hp { f with given := gv } (MS.start m.s m.js .run) = G1 at lp e3 mo3
      simp only [En.w]
      have mn : ∀ g : Hm, biD .min2 [.int a, .int (fm.given - m.used)] g = some (.ok (.int gv), g) := fun g => by rw [bi_min, hg]
      simp_arith! [BB, F_Machine_begin, Z.S.hd, Z.S.tl, Z.S.from, ef, lp, fo2, mo2, mo3, e3, mn, -bi_min]
    rw [seq_nx t2]
    have x3 := x1.over hL y2 (by have := fx2.1; rw [laid_next, hA] at this; omega) (fun b h1 h2 h3 => (fx2.2 b (by rw [laid_next]; omega) h2 h3 (by omega) (by omega) (by omega)).trans ((laid_gro hp _ _).at_ b h1))
    obtain ⟨g, e4, X, fx4⟩ := begin_tail n x3 hL y2 (by omega) rfl rfl hst hl (some K) (some (.int i)) (some (.int a)) (some (.str (Str.ofString (unbegun L fm k i c m.s).w)))
    refine ⟨g, e4, X, (fp.trans ?_).trans fx4⟩
    refine ⟨by have := fx2.1; rw [laid_next, hA] at this; omega, fun b h1 h2 h3 h4 h5 h6 => (fx2.2 b (by rw [laid_next]; omega) h2 h3 (by omega) (by omega) (by omega)).trans ((laid_gro hp _ _).at_ b h1)⟩
  · rw [if_neg hb]
    have y := x1.inner hL f (unbegun L fm k i c m.s)
    rw [hA] at y
    have lp := laid_put hp f f (MS.start m.s m.js .run) (MS.start m.s m.js (unbegun L fm k i c m.s))
    rw [hA] at lp
    have y0 := x1.inner hL f .run
    rw [hA] at y0
    have e3 := c_finish (n + 1) y0 (unbegun L fm k i c m.s) 0
    have lp' : (laid hp f (MS.start m.s m.js .run)).put A (frO A f { MS.start m.s m.js .run with en := unbegun L fm k i c m.s, ans := 0 }) = laid hp f (MS.start m.s m.js (unbegun L fm k i c m.s)) := lp
    have e3 : callF PR (n + 2) "Frame.finish" [.ref A, .str (Str.ofString (unbegun L fm k i c m.s).w), .int 0] (laid hp f (MS.start m.s m.js .run)) = some (.ok .non, (laid hp f (MS.start m.s m.js .run)).put A (frO A f { MS.start m.s m.js .run with en := unbegun L fm k i c m.s, ans := 0 })) := e3
    rw [lp'] at e3
    have hz := En.ne_run hb
    generalize hE : unbegun L fm k i c m.s = e at *
    have t2 : ex PR (callF PR (n + 2)) (BB.from 2).hd [some (.ref M), some (.ref F), some K, some (.ref A), some (.int i), some (.int a), some (.str (Str.ofString e.w))] (laid hp f (MS.start m.s m.js .run)) = some (.nx, [some (.ref M), some (.ref F), some K, some (.ref A), some (.int i), some (.int a), some (.str (Str.ofString e.w))], laid hp f (MS.start m.s m.js e)) := by
      unfold frO at ef
      generalize laid hp f (MS.start m.s m.js .run) = G0 at ef e3
      generalize laid hp f (MS.start m.s m.js e) = G1 at e3
      generalize Str.ofString e.w = ee at e3 hz
      simp_arith! [BB, F_Machine_begin, Z.S.hd, Z.S.tl, Z.S.from, ef, e3, hz]
    rw [seq_nx t2]
    have x3 := x1.gro hL (laid_gro hp f (MS.start m.s m.js e))
    obtain ⟨g, e4, X, fx4⟩ := begin_tail n x3 hL y (by omega) rfl rfl hst hl (some K) (some (.int i)) (some (.int a)) (some (.str (Str.ofString e.w)))
    exact ⟨g, e4, X, (fp.trans (Fx.gro (laid_gro ..))).trans fx4⟩
end

theorem xor_nat : ∀ a b : Nat, a + b = (a ^^^ b) + 2 * (a &&& b) := by
  intro a
  induction a using Nat.strongRecOn with
  | _ a ih =>
    intro b
    by_cases hz : a = 0
    · subst hz; simp
    · have k1 : (a &&& b) / 2 = a / 2 &&& b / 2 := Nat.and_div_two
      have k2 : (a ^^^ b) / 2 = a / 2 ^^^ b / 2 := Nat.xor_div_two
      have i := ih (a / 2) (by omega) (b / 2)
      have m1 := Nat.and_mod_two_pow (a := a) (b := b) (n := 1)
      have m2 := Nat.xor_mod_two_pow (a := a) (b := b) (n := 1)
      rw [Nat.pow_one] at m1 m2
      rcases Nat.mod_two_eq_zero_or_one a with h | h <;> rcases Nat.mod_two_eq_zero_or_one b with h' | h' <;> rw [h, h'] at m1 m2 <;> simp only [Nat.zero_and, Nat.and_zero, Nat.and_self, Nat.zero_xor, Nat.xor_zero, Nat.xor_self] at m1 m2 <;> omega
theorem or_nat : ∀ a b : Nat, a + b = (a ||| b) + (a &&& b) := by
  intro a
  induction a using Nat.strongRecOn with
  | _ a ih =>
    intro b
    by_cases hz : a = 0
    · subst hz; simp
    · have k1 : (a &&& b) / 2 = a / 2 &&& b / 2 := Nat.and_div_two
      have k2 : (a ||| b) / 2 = a / 2 ||| b / 2 := Nat.or_div_two
      have i := ih (a / 2) (by omega) (b / 2)
      have m1 := Nat.and_mod_two_pow (a := a) (b := b) (n := 1)
      have m2 := Nat.or_mod_two_pow (a := a) (b := b) (n := 1)
      rw [Nat.pow_one] at m1 m2
      rcases Nat.mod_two_eq_zero_or_one a with h | h <;> rcases Nat.mod_two_eq_zero_or_one b with h' | h' <;> rw [h, h'] at m1 m2 <;> simp only [Nat.zero_and, Nat.and_zero, Nat.and_self, Nat.zero_or, Nat.or_zero, Nat.or_self] at m1 m2 <;> omega
theorem xor_eq (a b : Int) (ha : 0 ≤ a) (hb : 0 ≤ b) : Builtin.bitXor a b = ((a.toNat ^^^ b.toNat : Nat) : Int) := by
  obtain ⟨m, rfl⟩ := Int.eq_ofNat_of_zero_le ha
  obtain ⟨n, rfl⟩ := Int.eq_ofNat_of_zero_le hb
  rw [PyProof.Rows.bitXor_and, PySem.W.os_band]
  have := xor_nat m n
  simp only [Int.ofNat_eq_natCast, Int.toNat_natCast]
  omega
theorem Sm.op_U {w : Sm} {a b : Int} (ha : U a) (hb : U b) : U (w.op a b) := by
  have ha' := ha
  have hb' := hb
  obtain ⟨a0, a1⟩ := ha
  obtain ⟨b0, b1⟩ := hb
  have md : ∀ z : Int, U (z % 18446744073709551616) := fun z => ⟨Int.emod_nonneg _ (by decide), Int.emod_lt_of_pos _ (by decide)⟩
  have z0 : U 0 := ⟨by omega, by omega⟩
  have z1 : U 1 := ⟨by omega, by omega⟩
  have an : Builtin.bitAnd a b = ((a.toNat &&& b.toNat : Nat) : Int) := by
    obtain ⟨m, rfl⟩ := Int.eq_ofNat_of_zero_le a0
    obtain ⟨n, rfl⟩ := Int.eq_ofNat_of_zero_le b0
    rw [PySem.W.os_band]; rfl
  have al : a.toNat &&& b.toNat ≤ a.toNat := Nat.and_le_left
  cases w with
  | add => exact md _
  | minus => exact md _
  | times => exact md _
  | over =>
    unfold Sm.op
    dsimp only
    split
    · exact z0
    · exact ⟨Int.ediv_nonneg a0 b0, Int.lt_of_le_of_lt (Int.ediv_le_self _ a0) a1⟩
  | rest =>
    unfold Sm.op
    dsimp only
    split
    · exact z0
    · exact ⟨Int.emod_nonneg _ ‹_›, Int.lt_of_lt_of_le (Int.emod_lt_of_pos _ (by omega)) (by omega)⟩
  | below => unfold Sm.op; dsimp only; split <;> assumption
  | same => unfold Sm.op; dsimp only; split <;> assumption
  | both =>
    unfold Sm.op
    dsimp only
    rw [an]
    exact ⟨by omega, by omega⟩
  | either =>
    unfold Sm.op
    dsimp only
    have h1 := PyProof.Rows.bitOr_and a b
    have h2 : ((a.toNat ||| b.toNat : Nat) : Int) = a + b - ((a.toNat &&& b.toNat : Nat) : Int) := by
      have := or_nat a.toNat b.toNat
      omega
    have h3 := Nat.or_lt_two_pow (n := 64) (x := a.toNat) (y := b.toNat) (by omega) (by omega)
    rw [h1, an, ← h2]
    exact ⟨by omega, by omega⟩
  | unlike =>
    unfold Sm.op
    dsimp only
    rw [xor_eq a b a0 b0]
    have := Nat.xor_lt_two_pow (n := 64) (x := a.toNat) (y := b.toNat) (by omega) (by omega)
    exact ⟨by omega, by omega⟩
  | up =>
    unfold Sm.op
    dsimp only
    split
    · exact z0
    · exact md _
  | down =>
    unfold Sm.op
    dsimp only
    split
    · exact z0
    · exact ⟨Int.ediv_nonneg a0 (Int.le_of_lt (Int.pow_pos (by decide))), Int.lt_of_le_of_lt (Int.ediv_le_self _ a0) a1⟩
def tot (L : Lay) (s : S) : Int := ((List.range 16).map fun (k : Nat) => if L.on (k : Int) = true then s.c (k : Int) else 0).sum
structure Good (L : Lay) (s : S) : Prop where
  c0 : ∀ i, L.on i = true → 0 ≤ s.c i
  tt : tot L s < 18446744073709551616
  f : ∀ i p, U (s.f i p) ∧ (s.f i p ≠ 0 → U p)
theorem sum_pos (f : Nat → Int) : ∀ xs : List Nat, (∀ k ∈ xs, 0 ≤ f k) → 0 ≤ (xs.map f).sum
  | [], _ => by simp
  | x :: t, h => by
    rw [List.map_cons, List.sum_cons]
    have := h x List.mem_cons_self
    have := sum_pos f t fun k hk => h k (List.mem_cons_of_mem _ hk)
    omega
theorem sum_le_of (f : Nat → Int) : ∀ xs : List Nat, (∀ k ∈ xs, 0 ≤ f k) → ∀ k ∈ xs, f k ≤ (xs.map f).sum
  | [], _, _, hk => by cases hk
  | x :: t, h, k, hk => by
    rw [List.map_cons, List.sum_cons]
    have ht := fun k hk => h k (List.mem_cons_of_mem _ hk)
    have h0 := h x List.mem_cons_self
    have hs := sum_pos f t ht
    rcases List.mem_cons.mp hk with e | hk
    · rw [e]; omega
    · have := sum_le_of f t ht k hk; omega
theorem Good.cU {L : Lay} {s : S} (g : Good L s) (hL : L.Ok) {i : Int} (hi : L.on i = true) : U (s.c i) := by
  refine ⟨g.c0 i hi, ?_⟩
  obtain ⟨h0, h1⟩ := hL.sm i hi
  obtain ⟨k, rfl⟩ := Int.eq_ofNat_of_zero_le h0
  have := sum_le_of (fun (k : Nat) => if L.on (k : Int) = true then s.c (k : Int) else 0) (List.range 16) (fun k _ => by
    by_cases h : L.on (k : Int) = true
    · rw [if_pos h]; exact g.c0 _ h
    · rw [if_neg h]; exact Int.le_refl _) k (List.mem_range.mpr (by omega))
  have t := g.tt
  unfold tot at t
  rw [if_pos hi] at this
  exact Int.lt_of_le_of_lt this t
theorem sum_map_add (xs : List Nat) (f g : Nat → Int) : (xs.map fun k => f k + g k).sum = (xs.map f).sum + (xs.map g).sum := by
  induction xs with
  | nil => rfl
  | cons a r ih => simp only [List.map_cons, List.sum_cons, ih]; omega
theorem sum_one (n : Nat) (i : Nat) (v : Int) (hi : i < n) : ((List.range n).map fun (k : Nat) => if (k : Int) = (i : Int) then v else 0).sum = v := by
  induction n with
  | zero => omega
  | succ n ih =>
    rw [List.range_succ, List.map_append, List.sum_append]
    by_cases h : i = n
    · subst h
      have : ((List.range i).map fun (k : Nat) => if (k : Int) = (i : Int) then v else 0).sum = 0 := by
        have : (List.range i).map (fun (k : Nat) => if (k : Int) = (i : Int) then v else 0) = (List.range i).map (fun _ => (0 : Int)) := List.map_congr_left fun k hk => by rw [if_neg (by have := List.mem_range.mp hk; omega)]
        rw [this]
        clear this ih hi
        induction i with
        | zero => rfl
        | succ n ih => rw [List.range_succ, List.map_append, List.sum_append, ih]; rfl
      rw [this]; simp
    · rw [ih (by omega)]
      simp
      omega
theorem tot_move (L : Lay) (s : S) (hL : L.Ok) (i j q : Int) (hi : L.on i = true) (hj : L.on j = true) : tot L ((Dd.move i j q).run s) = tot L s := by
  obtain ⟨i0, i1⟩ := hL.sm i hi
  obtain ⟨j0, j1⟩ := hL.sm j hj
  obtain ⟨a, rfl⟩ := Int.eq_ofNat_of_zero_le i0
  obtain ⟨b, rfl⟩ := Int.eq_ofNat_of_zero_le j0
  have e : ∀ k : Nat, (if L.on (k : Int) = true then ((Dd.move a b q).run s).c (k : Int) else 0) = ((if L.on (k : Int) = true then s.c (k : Int) else 0) + (if (k : Int) = (a : Int) then -q else 0)) + (if (k : Int) = (b : Int) then q else 0) := by
    intro k
    show (if L.on (k : Int) = true then updI (updI s.c a (s.c a - q)) b (updI s.c a (s.c a - q) b + q) (k : Int) else 0) = _
    unfold updI
    by_cases h1 : (k : Int) = (b : Int)
    · rw [h1, if_pos hj, if_pos rfl, if_pos hj, if_pos rfl]
      by_cases h2 : (b : Int) = (a : Int)
      · rw [if_pos h2, if_pos h2, h2]; omega
      · rw [if_neg h2, if_neg h2]; omega
    · rw [if_neg h1, if_neg h1]
      by_cases h2 : (k : Int) = (a : Int)
      · rw [h2, if_pos hi, if_pos rfl, if_pos hi, if_pos rfl]; omega
      · rw [if_neg h2, if_neg h2]; omega
  unfold tot
  rw [List.map_congr_left (fun k _ => e k), sum_map_add, sum_map_add, sum_one 16 a (-q) (by omega), sum_one 16 b q (by omega)]
  omega
def Dd.okU : Dd → Prop
  | .save _ p _ x => U x ∧ U p
  | .note _ x => U x
  | _ => True
theorem Good.run {L : Lay} {s : S} (g : Good L s) (hL : L.Ok) {d : Dd} (f : d.fit L s) (hu : d.okU) : Good L (d.run s) := by
  cases d with
  | move i j q =>
    obtain ⟨hi, hj, q0, q1⟩ := f
    refine ⟨fun k hk => ?_, by rw [tot_move L s hL i j q hi hj]; exact g.tt, g.f⟩
    show 0 ≤ updI (updI s.c i (s.c i - q)) j (updI s.c i (s.c i - q) j + q) k
    have := g.c0 k hk
    have := g.c0 j hj
    unfold updI
    by_cases h1 : k = j
    · rw [if_pos h1]
      by_cases h2 : j = i
      · rw [if_pos h2]; omega
      · rw [if_neg h2]; omega
    · rw [if_neg h1]
      by_cases h2 : k = i
      · rw [if_pos h2]; omega
      · rw [if_neg h2]; omega
  | save i p o x =>
    refine ⟨g.c0, g.tt, fun k r => ?_⟩
    show U (updI s.f i (upd (s.f i) p x) k r) ∧ (updI s.f i (upd (s.f i) p x) k r ≠ 0 → U r)
    unfold updI upd
    by_cases h1 : k = i
    · rw [if_pos h1]
      by_cases h2 : r = p
      · show U (if r = p then x else s.f i r) ∧ ((if r = p then x else s.f i r) ≠ 0 → U r); rw [if_pos h2]; exact ⟨hu.1, fun _ => h2 ▸ hu.2⟩
      · show U (if r = p then x else s.f i r) ∧ ((if r = p then x else s.f i r) ≠ 0 → U r); rw [if_neg h2]; exact g.f _ _
    · rw [if_neg h1]; exact g.f _ _
  | note i x => exact g

structure FmOk (L : Lay) (f : Fm) (s : S) : Prop where
  who : L.on f.who = true
  whose : L.on f.whose = true
  cal : U f.caller
  coi : U f.coin
  wor : U f.word
  g0 : 0 ≤ f.given
  mv : f.kind = .call → 0 < f.coin → L.on f.caller = true ∧ f.coin ≤ s.c f.caller
def RowOk (n : Nat) : Rk → Prop
  | .push v => U v
  | .swap k => 1 ≤ k
  | .jump k => k ≤ n
  | .jumpif k => k ≤ n
  | _ => True
def Lay.Rw (L : Lay) : Prop := ∀ i, L.on i = true → ∀ r ∈ L.rows i, RowOk (L.rows i).length r
theorem Rk.price_pos (r : Rk) (b : Bool) : 1 ≤ r.price b := by
  cases r with
  | sum w => cases w <;> simp [Rk.price]
  | save => cases b <;> simp [Rk.price]
  | call => cases b <;> simp [Rk.price]
  | _ => simp [Rk.price]
structure Inv (L : Lay) (f : Fm) (s0 : S) (js0 : List Dd) (m : MS) : Prop where
  u : ∀ v ∈ m.stk, U v
  len : m.stk.length ≤ 24
  at_ : m.at_ ≤ (L.rows f.whose).length
  us : 0 ≤ m.used ∧ m.used ≤ f.given
  way : ∃ ds, m.js = js0 ++ ds ∧ Way L s0 ds m.s ∧ (ds.length : Int) ≤ m.used + 1
  stl : (m.steps.length : Int) ≤ 2 * m.used + 1
  gd : Good L m.s
  an : U m.ans
structure GoOk (L : Lay) (f : Fm) (s : S) (js : List Dd) (r : MS) : Prop where
  us : 0 ≤ r.used ∧ r.used ≤ f.given
  way : ∃ ds, r.js = js ++ ds ∧ Way L s ds r.s ∧ (ds.length : Int) ≤ r.used + 1
  stl : (r.steps.length : Int) ≤ 2 * r.used + 1
  gd : Good L r.s
  an : U r.ans
  en : r.en ≠ .run
theorem fault_run {fm : Fm} {r : Rk} {m : MS} (h : fault fm r m = .run) : r.takes ≤ m.stk.length ∧ m.stk.length - r.takes + r.leaves ≤ 24 ∧ cost fm r m ≤ fm.given - m.used := by
  unfold fault at h
  split at h
  · cases h
  · split at h
    · cases h
    · split at h
      · cases h
      · split at h
        · cases h
        · exact ⟨by omega, by omega, by omega⟩
section
variable {L : Lay} {f : Fm} {s0 : S} {js0 : List Dd} {m : MS} {go : Fm → S → List Dd → MS}
theorem Sm.U0 : U 0 := ⟨by omega, by omega⟩
theorem Sm.U1 : U 1 := ⟨by omega, by omega⟩
theorem Inv.wr (hL : L.Ok) (x : Inv L f s0 js0 m) (d : Dd) (hd : d.fit L m.s) (hu : d.okU) (h1 : ∃ ds, m.js = js0 ++ ds ∧ Way L s0 ds m.s ∧ (ds.length : Int) ≤ m.used) (h2 : (m.steps.length : Int) ≤ 2 * m.used) : Inv L f s0 js0 (m.wr d) := by
  obtain ⟨ds, e, w, l⟩ := h1
  refine ⟨x.u, x.len, x.at_, x.us, ⟨ds ++ [d], ?_, w.snoc hd, ?_⟩, ?_, x.gd.run hL hd hu, x.an⟩
  · show m.js ++ [d] = _
    rw [e, List.append_assoc]
  · show _ ≤ m.used + 1
    rw [List.length_append]; simp; omega
  · show ((m.steps ++ [Sp.deed d]).length : Int) ≤ 2 * m.used + 1
    rw [List.length_append]; simp; omega
theorem Inv.take (x : Inv L f s0 js0 m) (f' : Fm) (r : MS) (h1 : ∃ ds, m.js = js0 ++ ds ∧ Way L s0 ds m.s ∧ (ds.length : Int) ≤ m.used) (h2 : (m.steps.length : Int) ≤ 2 * m.used) (hl : m.stk.length ≤ 22) (hr : 0 ≤ r.used ∧ r.used ≤ f.given - m.used)
    (w : ∃ ds, r.js = m.js ++ ds ∧ Way L m.s ds r.s ∧ (ds.length : Int) ≤ r.used + 1) (gd : Good L r.s) (an : U r.ans) : Inv L f s0 js0 (m.take f' r) := by
  obtain ⟨ds, e, w1, l⟩ := h1
  obtain ⟨ds', e', w2, l'⟩ := w
  obtain ⟨u0, u1⟩ := x.us
  refine ⟨fun v hv => ?_, by show (_ :: _ :: m.stk).length ≤ 24; simp; omega, x.at_, ⟨by show 0 ≤ m.used + r.used; omega, by show m.used + r.used ≤ f.given; omega⟩, ⟨ds ++ ds', ?_, w1.trans w2, ?_⟩, ?_, gd, x.an⟩
  · have hv : v ∈ (if r.en = .well then (1 : Int) else 0) :: r.ans :: m.stk := hv
    rcases List.mem_cons.mp hv with e | hv
    · rw [e]; split
      · exact Sm.U1
      · exact Sm.U0
    · rcases List.mem_cons.mp hv with e | hv
      · rw [e]; exact an
      · exact x.u v hv
  · show r.js = _
    rw [e', e, List.append_assoc]
  · show _ ≤ m.used + r.used + 1
    rw [List.length_append]; simp; omega
  · show ((m.steps ++ [Sp.sub f' r.en r.ans r.used r.steps]).length : Int) ≤ 2 * (m.used + r.used) + 1
    rw [List.length_append]; simp; omega
theorem inv_begin (hL : L.Ok) (who : L.on f.who = true) (cal : U f.caller) (coi : U f.coin) (x : Inv L f s0 js0 m) (h1 : ∃ ds, m.js = js0 ++ ds ∧ Way L s0 ds m.s ∧ (ds.length : Int) ≤ m.used) (h2 : (m.steps.length : Int) ≤ 2 * m.used) (hl : m.stk.length ≤ 22)
    (hgo : ∀ f' s js, f'.depth = f.depth + 1 → f'.depth ≤ 8 → FmOk L f' s → Good L s → GoOk L f' s js (go f' s js)) (k : Kd) (i c a w : Int) (hc : U c) (ha : U a) (hw : U w) (hk : k ≠ .call → c = 0) : Inv L f s0 js0 (begin_ go L f k i c a w m) ∧ m.used ≤ (begin_ go L f k i c a w m).used := by
  obtain ⟨u0, u1⟩ := x.us
  unfold begin_
  dsimp only
  by_cases hb : unbegun L f k i c m.s = .run
  · rw [if_pos hb]
    unfold unbegun at hb
    have hon : L.on i = true := by
      cases e : L.on i with
      | true => rfl
      | false => rw [e, if_pos rfl] at hb; cases hb
    rw [hon, if_neg (by simp)] at hb
    by_cases hd : 8 < f.depth + 1
    · rw [if_pos hd] at hb; cases hb
    rw [if_neg hd] at hb
    have hp : ¬ (k = .call ∧ m.s.c f.who < c) := fun z => by rw [if_pos z] at hb; cases hb
    obtain ⟨g, hg⟩ : ∃ g, (if f.given - m.used < a then f.given - m.used else a) = g := ⟨_, rfl⟩
    have g0 : 0 ≤ g ∧ g ≤ f.given - m.used := by have := ha.1; rw [← hg]; split <;> omega
    rw [hg]
    have wU : U f.who := by obtain ⟨a, b⟩ := hL.sm _ who; exact ⟨a, by omega⟩
    have fo : FmOk L { inner f k i c w with given := g } m.s := by
      cases k with
      | call => exact ⟨hon, hon, wU, hc, hw, g0.1, fun _ _ => ⟨who, Int.not_lt.mp fun z => hp ⟨rfl, z⟩⟩⟩
      | borrow => exact ⟨who, hon, cal, coi, hw, g0.1, fun z => by cases z⟩
      | look => exact ⟨hon, hon, wU, hc, hw, g0.1, fun z => by cases z⟩
    have dp : ({ inner f k i c w with given := g } : Fm).depth = f.depth + 1 := by cases k <;> rfl
    have R := hgo _ m.s m.js dp (by rw [dp]; omega) fo x.gd
    exact ⟨x.take _ _ h1 h2 hl ⟨R.us.1, Int.le_trans R.us.2 g0.2⟩ R.way R.gd R.an, Int.le_add_of_nonneg_right R.us.1⟩
  · rw [if_neg hb]
    exact ⟨x.take _ _ h1 h2 hl ⟨Int.le_refl _, by show (0 : Int) ≤ _; omega⟩ ⟨[], (List.append_nil _).symm, .nil, by show ((0 : Nat) : Int) ≤ 0 + 1; omega⟩ x.gd Sm.U0, by show m.used ≤ m.used + 0; omega⟩
theorem inv_step (hL : L.Ok) (hR : L.Rw) (who : L.on f.who = true) (whose : L.on f.whose = true) (cal : U f.caller) (coi : U f.coin) (wor : U f.word) (x : Inv L f s0 js0 m)
    (hgo : ∀ f' s js, f'.depth = f.depth + 1 → f'.depth ≤ 8 → FmOk L f' s → Good L s → GoOk L f' s js (go f' s js)) : Inv L f s0 js0 (step go L f m) ∧ ((step go L f m).en = .run → m.used < (step go L f m).used) := by
  obtain ⟨u0, u1⟩ := x.us
  unfold step
  cases hr : (L.rows f.whose)[m.at_]? with
  | none => exact ⟨⟨x.u, x.len, x.at_, x.us, x.way, x.stl, x.gd, Sm.U0⟩, fun z => by cases z⟩
  | some r =>
    dsimp only
    by_cases hf : fault f r m = .run
    · rw [if_pos hf]
      obtain ⟨t1, t2, t3⟩ := fault_run hf
      have cp : 1 ≤ cost f r m := r.price_pos _
      generalize cost f r m = co at t3 cp ⊢
      obtain ⟨hlt, hget⟩ := List.getElem?_eq_some_iff.mp hr
      have ro := hR _ whose r (by rw [← hget]; exact List.getElem_mem hlt)
      obtain ⟨ds, e, w, l⟩ := x.way
      have y : Inv L f s0 js0 { m with used := m.used + co, steps := m.steps ++ [.at_ m.at_], at_ := m.at_ + 1 } := ⟨x.u, x.len, hlt, ⟨by show 0 ≤ m.used + co; omega, by show m.used + co ≤ f.given; omega⟩, ⟨ds, e, w, by show _ ≤ m.used + co + 1; omega⟩, by
        show ((m.steps ++ [Sp.at_ m.at_]).length : Int) ≤ 2 * (m.used + co) + 1
        have := x.stl
        rw [List.length_append]; simp; omega, x.gd, x.an⟩
      have h1 : ∃ ds, m.js = js0 ++ ds ∧ Way L s0 ds m.s ∧ (ds.length : Int) ≤ m.used + co := ⟨ds, e, w, by omega⟩
      have h2 : ((m.steps ++ [Sp.at_ m.at_]).length : Int) ≤ 2 * (m.used + co) := by
        have := x.stl
        rw [List.length_append]; simp; omega
      have hu : m.used < m.used + co := by omega
      obtain ⟨mm, hmm⟩ : ∃ mm : MS, { m with used := m.used + co, steps := m.steps ++ [.at_ m.at_], at_ := m.at_ + 1 } = mm := ⟨_, rfl⟩
      have k1 : mm.stk = m.stk := by rw [← hmm]
      have k2 : mm.used = m.used + co := by rw [← hmm]
      have k3 : mm.js = m.js := by rw [← hmm]
      have k4 : mm.s = m.s := by rw [← hmm]
      have k5 : mm.steps = m.steps ++ [.at_ m.at_] := by rw [← hmm]
      rw [← k3, ← k4, ← k2] at h1
      rw [← k5, ← k2] at h2
      rw [← k2] at hu
      rw [hmm] at y ⊢
      rw [← k1] at t1 t2
      clear hmm k1 k3 k4 k5 t3 cp e w l ds
      have ps : ∀ st : List Int, (∀ v ∈ st, U v) → st.length ≤ 24 → Inv L f s0 js0 { mm with stk := st } := fun st a b => ⟨a, b, y.at_, y.us, y.way, y.stl, y.gd, y.an⟩
      have yu := y.u
      have yl := y.len
      cases r with
      | push v =>
        refine ⟨ps (v :: mm.stk) (fun z hz => ?_) ?_, fun _ => hu⟩
        · rcases List.mem_cons.mp hz with e | hz
          · rw [e]; exact ro
          · exact yu z hz
        · simp only [Rk.takes, Rk.leaves] at t2; simp; omega
      | drop =>
        cases hs : mm.stk with
        | nil => rw [hs] at t1; simp [Rk.takes] at t1
        | cons a st =>
          have ea : act go L f .drop mm = { mm with stk := st } := by unfold act; rw [hs]
          rw [ea]
          rw [hs] at yu yl
          exact ⟨ps st (fun z hz => yu z (List.mem_cons_of_mem _ hz)) (by simp at yl; omega), fun _ => hu⟩
      | copy k =>
        refine ⟨ps (mm.stk.getD k 0 :: mm.stk) (fun z hz => ?_) ?_, fun _ => hu⟩
        · rcases List.mem_cons.mp hz with e | hz
          · rw [e, List.getD_eq_getElem?_getD]
            simp only [Rk.takes] at t1
            rw [List.getElem?_eq_getElem (by omega)]
            exact yu _ (List.getElem_mem _)
          · exact yu z hz
        · simp only [Rk.takes, Rk.leaves] at t1 t2; simp; omega
      | swap k =>
        cases hs : mm.stk with
        | nil => rw [hs] at t1; simp [Rk.takes] at t1
        | cons a st =>
          have ea : act go L f (.swap k) mm = { mm with stk := st.getD (k - 1) 0 :: st.set (k - 1) a } := by unfold act; rw [hs]
          rw [ea]
          rw [hs] at yu yl t1
          simp only [Rk.takes, List.length_cons] at t1
          refine ⟨ps _ (fun z hz => ?_) (by simp at yl ⊢; omega), fun _ => hu⟩
          rcases List.mem_cons.mp hz with e | hz
          · have ro' : 1 ≤ k := ro
            rw [e, List.getD_eq_getElem?_getD, List.getElem?_eq_getElem (by omega)]
            exact yu _ (List.mem_cons_of_mem _ (List.getElem_mem _))
          · rcases List.mem_or_eq_of_mem_set hz with hz | hz
            · exact yu z (List.mem_cons_of_mem _ hz)
            · rw [hz]; exact yu a List.mem_cons_self
      | sum w =>
        match hs : mm.stk, t1 with
        | b :: a :: st, _ =>
          have ea : act go L f (.sum w) mm = { mm with stk := w.op a b :: st } := by unfold act; rw [hs]
          rw [ea]
          rw [hs] at yu yl
          refine ⟨ps _ (fun z hz => ?_) (by simp at yl ⊢; omega), fun _ => hu⟩
          rcases List.mem_cons.mp hz with e | hz
          · rw [e]; exact Sm.op_U (yu a (by simp)) (yu b (by simp))
          · exact yu z (by simp [hz])
      | jump k => exact ⟨⟨yu, yl, ro, y.us, y.way, y.stl, y.gd, y.an⟩, fun _ => hu⟩
      | jumpif k =>
        cases hs : mm.stk with
        | nil => rw [hs] at t1; simp [Rk.takes] at t1
        | cons a st =>
          have ea : act go L f (.jumpif k) mm = { mm with stk := st, at_ := if a ≠ 0 then k else mm.at_ } := by unfold act; rw [hs]
          rw [ea]
          rw [hs] at yu yl
          refine ⟨⟨fun z hz => yu z (List.mem_cons_of_mem _ hz), by simp at yl ⊢; omega, ?_, y.us, y.way, y.stl, y.gd, y.an⟩, fun _ => hu⟩
          show (if a ≠ 0 then k else mm.at_) ≤ _
          split
          · exact ro
          · exact y.at_
      | load =>
        cases hs : mm.stk with
        | nil => rw [hs] at t1; simp [Rk.takes] at t1
        | cons a st =>
          have ea : act go L f .load mm = { mm with stk := mm.s.f f.who a :: st } := by unfold act; rw [hs]
          rw [ea]
          rw [hs] at yu yl
          refine ⟨ps _ (fun z hz => ?_) (by simp at yl ⊢; omega), fun _ => hu⟩
          rcases List.mem_cons.mp hz with e | hz
          · rw [e]; exact (y.gd.f _ _).1
          · exact yu z (List.mem_cons_of_mem _ hz)
      | save =>
        match hs : mm.stk, t1 with
        | v :: p :: st, _ =>
          have ea : act go L f .save mm = { mm with stk := st }.wr (.save f.who p (mm.s.f f.who p) v) := by unfold act; rw [hs]
          rw [ea]
          rw [hs] at yu yl
          have z := ps st (fun z hz => yu z (by simp [hz])) (by simp at yl; omega)
          exact ⟨z.wr hL _ ⟨who, rfl⟩ ⟨yu v (by simp), yu p (by simp)⟩ h1 h2, fun _ => hu⟩
      | me =>
        refine ⟨ps (f.who :: mm.stk) (fun z hz => ?_) ?_, fun _ => hu⟩
        · rcases List.mem_cons.mp hz with e | hz
          · rw [e]; obtain ⟨a, b⟩ := hL.sm _ who; exact ⟨a, by omega⟩
          · exact yu z hz
        · simp only [Rk.takes, Rk.leaves] at t2; simp; omega
      | from_ =>
        refine ⟨ps (f.caller :: mm.stk) (fun z hz => ?_) ?_, fun _ => hu⟩
        · rcases List.mem_cons.mp hz with e | hz
          · rw [e]; exact cal
          · exact yu z hz
        · simp only [Rk.takes, Rk.leaves] at t2; simp; omega
      | sent =>
        refine ⟨ps (f.coin :: mm.stk) (fun z hz => ?_) ?_, fun _ => hu⟩
        · rcases List.mem_cons.mp hz with e | hz
          · rw [e]; exact coi
          · exact yu z hz
        · simp only [Rk.takes, Rk.leaves] at t2; simp; omega
      | word =>
        refine ⟨ps (f.word :: mm.stk) (fun z hz => ?_) ?_, fun _ => hu⟩
        · rcases List.mem_cons.mp hz with e | hz
          · rw [e]; exact wor
          · exact yu z hz
        · simp only [Rk.takes, Rk.leaves] at t2; simp; omega
      | coin =>
        cases hs : mm.stk with
        | nil => rw [hs] at t1; simp [Rk.takes] at t1
        | cons i st =>
          have ea : act go L f .coin mm = { mm with stk := (if L.on i = true then mm.s.c i else 0) :: st } := by unfold act; rw [hs]
          rw [ea]
          rw [hs] at yu yl
          refine ⟨ps _ (fun z hz => ?_) (by simp at yl ⊢; omega), fun _ => hu⟩
          rcases List.mem_cons.mp hz with e | hz
          · rw [e]; split
            · exact y.gd.cU hL ‹_›
            · exact Sm.U0
          · exact yu z (List.mem_cons_of_mem _ hz)
      | note =>
        cases hs : mm.stk with
        | nil => rw [hs] at t1; simp [Rk.takes] at t1
        | cons v st =>
          have ea : act go L f .note mm = { mm with stk := st }.wr (.note f.who v) := by unfold act; rw [hs]
          rw [ea]
          rw [hs] at yu yl
          have z := ps st (fun z hz => yu z (by simp [hz])) (by simp at yl; omega)
          exact ⟨z.wr hL _ who (yu v (by simp)) h1 h2, fun _ => hu⟩
      | call =>
        match hs : mm.stk, t1 with
        | w :: a :: c :: i :: st, _ =>
          have ea : act go L f .call mm = begin_ go L f .call i c a w { mm with stk := st } := by unfold act; rw [hs]
          rw [ea]
          rw [hs] at yu yl
          have z := ps st (fun z hz => yu z (by simp [hz])) (by simp at yl; omega)
          have b := inv_begin hL who cal coi z h1 h2 (by simp at yl ⊢; omega) hgo .call i c a w (yu c (by simp)) (yu a (by simp)) (yu w (by simp)) (fun z => absurd rfl z)
          exact ⟨b.1, fun _ => Int.lt_of_lt_of_le hu b.2⟩
      | borrow =>
        match hs : mm.stk, t1 with
        | w :: a :: i :: st, _ =>
          have ea : act go L f .borrow mm = begin_ go L f .borrow i 0 a w { mm with stk := st } := by unfold act; rw [hs]
          rw [ea]
          rw [hs] at yu yl
          have z := ps st (fun z hz => yu z (by simp [hz])) (by simp at yl; omega)
          have b := inv_begin hL who cal coi z h1 h2 (by simp at yl ⊢; omega) hgo .borrow i 0 a w Sm.U0 (yu a (by simp)) (yu w (by simp)) (fun _ => rfl)
          exact ⟨b.1, fun _ => Int.lt_of_lt_of_le hu b.2⟩
      | look =>
        match hs : mm.stk, t1 with
        | w :: a :: i :: st, _ =>
          have ea : act go L f .look mm = begin_ go L f .look i 0 a w { mm with stk := st } := by unfold act; rw [hs]
          rw [ea]
          rw [hs] at yu yl
          have z := ps st (fun z hz => yu z (by simp [hz])) (by simp at yl; omega)
          have b := inv_begin hL who cal coi z h1 h2 (by simp at yl ⊢; omega) hgo .look i 0 a w Sm.U0 (yu a (by simp)) (yu w (by simp)) (fun _ => rfl)
          exact ⟨b.1, fun _ => Int.lt_of_lt_of_le hu b.2⟩
      | give =>
        cases hs : mm.stk with
        | nil => rw [hs] at t1; simp [Rk.takes] at t1
        | cons v st =>
          have ea : act go L f .give mm = { mm with stk := st, en := .well, ans := v } := by unfold act; rw [hs]
          rw [ea]
          rw [hs] at yu yl
          exact ⟨⟨fun z hz => yu z (List.mem_cons_of_mem _ hz), by simp at yl ⊢; omega, y.at_, y.us, y.way, y.stl, y.gd, yu v (by simp)⟩, fun z => by cases z⟩
      | fail =>
        cases hs : mm.stk with
        | nil => rw [hs] at t1; simp [Rk.takes] at t1
        | cons v st =>
          have ea : act go L f .fail mm = { mm with stk := st, en := .fail, ans := v } := by unfold act; rw [hs]
          rw [ea]
          rw [hs] at yu yl
          exact ⟨⟨fun z hz => yu z (List.mem_cons_of_mem _ hz), by simp at yl ⊢; omega, y.at_, y.us, y.way, y.stl, y.gd, yu v (by simp)⟩, fun z => by cases z⟩
    · rw [if_neg hf]
      exact ⟨⟨x.u, x.len, x.at_, x.us, x.way, x.stl, x.gd, Sm.U0⟩, fun z => absurd z hf⟩
theorem iter_ok (F : MS → MS) (hF : ∀ m, Inv L f s0 js0 m → m.en = .run → Inv L f s0 js0 (F m) ∧ ((F m).en = .run → m.used < (F m).used)) : ∀ (n : Nat) (m : MS), Inv L f s0 js0 m → f.given - m.used + 1 ≤ (n : Int) → Inv L f s0 js0 (iter F n m) ∧ (iter F n m).en ≠ .run
  | 0, m, x, h => by have := x.us; omega
  | n + 1, m, x, h => by
    unfold iter
    by_cases he : m.en = .run
    · rw [if_pos he]
      obtain ⟨y, l⟩ := hF m x he
      by_cases h2 : (F m).en = .run
      · have := l h2
        exact iter_ok F hF n (F m) y (by omega)
      · have e : iter F n (F m) = F m := by
          cases n with
          | zero => rfl
          | succ n => unfold iter; rw [if_neg h2]
        rw [e]
        exact ⟨y, h2⟩
    · rw [if_neg he]; exact ⟨x, he⟩
theorem start_inv (g : Good L s0) (h : 0 ≤ f.given) : Inv L f s0 js0 (MS.start s0 js0 .run) :=
  ⟨fun v hv => (by cases hv), by show (0 : Nat) ≤ 24; omega, Nat.zero_le _, ⟨Int.le_refl _, h⟩, ⟨[], (List.append_nil _).symm, .nil, by show ((0 : Nat) : Int) ≤ 0 + 1; omega⟩, by show ((0 : Nat) : Int) ≤ 2 * 0 + 1; omega, g, Sm.U0⟩
def first (f : Fm) (s : S) (js : List Dd) : MS := if f.kind = .call ∧ 0 < f.coin then (MS.start s js .run).wr (.move f.caller f.who f.coin) else MS.start s js .run
theorem first_inv (hL : L.Ok) (F : FmOk L f s0) (g : Good L s0) : Inv L f s0 js0 (first f s0 js0) := by
  have x := start_inv (js0 := js0) g F.g0
  unfold first
  by_cases h : f.kind = .call ∧ 0 < f.coin
  · rw [if_pos h]
    obtain ⟨c1, c2⟩ := F.mv h.1 h.2
    exact x.wr hL _ ⟨c1, F.who, by omega, c2⟩ trivial ⟨[], (List.append_nil _).symm, .nil, by show ((0 : Nat) : Int) ≤ 0; omega⟩ (by show ((0 : Nat) : Int) ≤ 2 * 0; omega)
  · rw [if_neg h]; exact x
theorem first_used (f : Fm) (s : S) (js : List Dd) : (first f s js).used = 0 ∧ (first f s js).en = .run := by
  unfold first; split <;> exact ⟨rfl, rfl⟩
end
theorem goP_eq (L : Lay) (d : Nat) (f : Fm) (s : S) (js : List Dd) : goP L (d + 1) f s js = (if (iter (step (goP L d) L f) (f.given.toNat + 1) (first f s js)).en = .well then iter (step (goP L d) L f) (f.given.toNat + 1) (first f s js) else { iter (step (goP L d) L f) (f.given.toNat + 1) (first f s js) with s := s, js := js }) := by
  rw [goP]; rfl
theorem goP_turns {L : Lay} (hL : L.Ok) (hR : L.Rw) (d : Nat) (f : Fm) (s : S) (js : List Dd) (F : FmOk L f s) (g : Good L s)
    (hgo : ∀ f' s js, f'.depth = f.depth + 1 → f'.depth ≤ 8 → FmOk L f' s → Good L s → GoOk L f' s js (goP L d f' s js)) : Inv L f s js (iter (step (goP L d) L f) (f.given.toNat + 1) (first f s js)) ∧ (iter (step (goP L d) L f) (f.given.toNat + 1) (first f s js)).en ≠ .run := by
  have g0 := F.g0
  exact iter_ok (step (goP L d) L f) (fun m x he => inv_step hL hR F.who F.whose F.cal F.coi F.wor x hgo) _ _ (first_inv hL F g) (by rw [(first_used f s js).1]; omega)
theorem goP_ok {L : Lay} (hL : L.Ok) (hR : L.Rw) : ∀ (d : Nat) (f : Fm) (s : S) (js : List Dd), f.depth + (d : Int) = 9 → f.depth ≤ 8 → FmOk L f s → Good L s → GoOk L f s js (goP L d f s js)
  | 0, f, s, js, h1, h2, F, g => by omega
  | d + 1, f, s, js, h1, h2, F, g => by
    obtain ⟨x, he⟩ := goP_turns hL hR d f s js F g fun f' s js e1 e2 => goP_ok hL hR d f' s js (by omega) e2
    rw [goP_eq]
    generalize iter (step (goP L d) L f) (f.given.toNat + 1) (first f s js) = m at x he ⊢
    by_cases hw : m.en = .well
    · rw [if_pos hw]; exact ⟨x.us, x.way, x.stl, x.gd, x.an, he⟩
    · rw [if_neg hw]
      have := x.us.1
      exact ⟨x.us, ⟨[], (List.append_nil _).symm, .nil, by show ((0 : Nat) : Int) ≤ m.used + 1; omega⟩, x.stl, g, x.an, he⟩

--CUT
section
variable {L : Lay} {M F : Nat} {fm : Fm} {m : MS} {h : Hm} {go : Fm → S → List Dd → MS}
def Calls (L : Lay) (M n : Nat) (go : Fm → S → List Dd → MS) (fm : Fm) (m : MS) : Prop := ∀ k i c a w, U c → U a → U w → (k ≠ .call → c = 0) → unbegun L fm k i c m.s = .run → Goes L M n go { inner fm k i c w with given := if fm.given - m.used < a then fm.given - m.used else a } m.s m.js
theorem Rk.D_hd (r : Rk) : ∃ tl, r.D = .tup (.str (Str.ofString r.w) :: tl) := by cases r <;> exact ⟨_, rfl⟩
def Rk.Pl : Rk → Prop
  | .load => False | .save => False | .coin => False | .note => False | .call => False | .borrow => False | .look => False | .swap k => 1 ≤ k | _ => True
theorem Rk.plain_w (r : Rk) (hp : r.Pl) :
    Str.ofString r.w ≠ Str.ofString "call" ∧ Str.ofString r.w ≠ Str.ofString "borrow" ∧ Str.ofString r.w ≠ Str.ofString "look" ∧ Str.ofString r.w ≠ Str.ofString "load" ∧ Str.ofString r.w ≠ Str.ofString "coin" ∧ Str.ofString r.w ≠ Str.ofString "save" ∧ Str.ofString r.w ≠ Str.ofString "note" := by
  cases r with
  | sum w => cases w <;> simp [Rk.w, Sm.w]
  | load => exact hp.elim
  | save => exact hp.elim
  | coin => exact hp.elim
  | note => exact hp.elim
  | call => exact hp.elim
  | borrow => exact hp.elim
  | look => exact hp.elim
  | _ => simp [Rk.w]
theorem c_done (n b : Nat) (x : Run L M F fm m h) (hL : L.Ok) (hw : L.on fm.who = true) (r : Rk) (N : Nat) (hr : RowOk N r) (hs : r.takes ≤ m.stk.length) (hl : m.stk.length ≤ 24) (hu : ∀ v ∈ m.stk, U v) (hb : Big b m) (hc : Calls L M (n + 4) go fm m) :
    ∃ g, callF PR (n + 6) "Machine.done" [.ref M, .ref F, r.D] h = some (.ok .non, g) ∧ Run L M F fm (act go L fm r m) g ∧ Fx L F h g := by
  have pl : r.Pl → ∃ g, callF PR (n + 6) "Machine.done" [.ref M, .ref F, r.D] h = some (.ok .non, g) ∧ Run L M F fm (act go L fm r m) g ∧ Fx L F h g := by
    intro hp
    obtain ⟨g, e, X, f⟩ := c_plain_row (go := go) (n + 2) x hL r (by cases r <;> first | exact hp | exact trivial) hs hl hu
    refine ⟨g, ?_, X, f⟩
    obtain ⟨tl, ht⟩ := r.D_hd
    obtain ⟨w1, w2, w3, w4, w5, w6, w7⟩ := r.plain_w hp
    rw [callF_eq fn_Machine_done rfl]
    have mo := x.mo
    have fo := x.fo
    unfold frO at fo
    rw [ht] at e ⊢
    generalize Str.ofString r.w = z at e w1 w2 w3 w4 w5 w6 w7 ⊢
    have v1 := Ne.symm w1
    have v2 := Ne.symm w2
    have v3 := Ne.symm w3
    simp_arith! [F_Machine_done, mo, fo, e, w1, w2, w3, w4, w5, w6, w7, v1, v2, v3]
  have fo := x.fo
  have mo := x.mo
  unfold frO at fo
  cases r with
  | load => exact c_done_load n x hL hw hs hl
  | save => exact c_done_save n b x hL hw hs hb
  | coin => exact c_done_coin n x hL hw hs hl hu
  | note => exact c_done_note n b x hL hw hs hb
  | call =>
    match hk : m.stk, hs with
    | w :: a :: c :: i :: s, _ =>
      rw [hk] at hu hl
      obtain ⟨g, e, X, f⟩ := c_begin (go := go) (n + 2) x hL hw .call i c a w s (by rw [hk, if_pos rfl]) (fun z => absurd rfl z) (hu i (by simp)).1 hb.st (by simp at hl; omega) (fun z => hc .call i c a w (hu c (by simp)) (hu a (by simp)) (hu w (by simp)) (fun z => absurd rfl z) z)
      have ea : act go L fm .call m = begin_ go L fm .call i c a w { m with stk := s } := by unfold act; rw [hk]
      rw [ea]
      refine ⟨g, ?_, X, f⟩
      rw [callF_eq fn_Machine_done rfl]
      simp only [Rk.D, Rk.v, Rk.w, Kd.w] at e ⊢
      simp_arith! [F_Machine_done, mo, fo, e]
  | borrow =>
    match hk : m.stk, hs with
    | w :: a :: i :: s, _ =>
      rw [hk] at hu hl
      obtain ⟨g, e, X, f⟩ := c_begin (go := go) (n + 2) x hL hw .borrow i 0 a w s (by rw [hk, if_neg (by decide)]) (fun _ => rfl) (hu i (by simp)).1 hb.st (by simp at hl; omega) (fun z => hc .borrow i 0 a w Sm.U0 (hu a (by simp)) (hu w (by simp)) (fun _ => rfl) z)
      have ea : act go L fm .borrow m = begin_ go L fm .borrow i 0 a w { m with stk := s } := by unfold act; rw [hk]
      rw [ea]
      refine ⟨g, ?_, X, f⟩
      rw [callF_eq fn_Machine_done rfl]
      simp only [Rk.D, Rk.v, Rk.w, Kd.w] at e ⊢
      simp_arith! [F_Machine_done, mo, fo, e]
  | look =>
    match hk : m.stk, hs with
    | w :: a :: i :: s, _ =>
      rw [hk] at hu hl
      obtain ⟨g, e, X, f⟩ := c_begin (go := go) (n + 2) x hL hw .look i 0 a w s (by rw [hk, if_neg (by decide)]) (fun _ => rfl) (hu i (by simp)).1 hb.st (by simp at hl; omega) (fun z => hc .look i 0 a w Sm.U0 (hu a (by simp)) (hu w (by simp)) (fun _ => rfl) z)
      have ea : act go L fm .look m = begin_ go L fm .look i 0 a w { m with stk := s } := by unfold act; rw [hk]
      rw [ea]
      refine ⟨g, ?_, X, f⟩
      rw [callF_eq fn_Machine_done rfl]
      simp only [Rk.D, Rk.v, Rk.w, Kd.w] at e ⊢
      simp_arith! [F_Machine_done, mo, fo, e]
  | swap k => exact pl hr
  | _ => exact pl trivial
end

section
variable {L : Lay} {M F : Nat} {fm : Fm} {m : MS} {h : Hm} {go : Fm → S → List Dd → MS}
theorem c_step (n b : Nat) (x : Run L M F fm m h) (hL : L.Ok) (hw : L.on fm.who = true) (hws : L.on fm.whose = true) (hR : L.Rw) (ha : m.at_ ≤ (L.rows fm.whose).length) (hl : m.stk.length ≤ 24) (hu : ∀ v ∈ m.stk, U v)
    (hj : m.js.length < 900000) (hb : b < 900000) (hs : Sml b m.s) (hst : m.steps.length < 800000)
    (hc : ∀ (r : Rk), (L.rows fm.whose)[m.at_]? = some r → fault fm r m = .run → Calls L M (n + 4) go fm { m with used := m.used + cost fm r m, steps := m.steps ++ [.at_ m.at_], at_ := m.at_ + 1 }) :
    ∃ g, callF PR (n + 7) "Machine.step" [.ref M, .ref F] h = some (.ok .non, g) ∧ Run L M F fm (step go L fm m) g ∧ Fx L F h g := by
  rw [callF_eq fn_Machine_step rfl]
  obtain ⟨as, J, _⟩ := x.jn
  have mo := x.mo
  have fo := x.fo
  have rm := J.hr.rm
  have ri := Lay.rm_on hL hws
  have ai := J.hr.ac fm.whose hws
  have pg := J.hr.pg fm.whose hws
  unfold Lay.aco acO at ai
  unfold frO at fo
  generalize hX : L.rm = X at rm ri
  have pl : ((L.rows fm.whose).map Rk.D).length = (L.rows fm.whose).length := List.length_map ..
  unfold step
  cases hr : (L.rows fm.whose)[m.at_]? with
  | none =>
    have hat : m.at_ = (L.rows fm.whose).length := by have := List.getElem?_eq_none_iff.mp hr; omega
    have fi := c_finish (n + 5) x .well 0
    simp only [En.w] at fi
    have X2 := x.frm hL m.at_ m.used 0 .well
    refine ⟨_, ?_, X2, Fx.put0⟩
    generalize hO : frO F fm _ = O at fi ⊢
    clear hO
    generalize (L.rows fm.whose).map Rk.D = pq at pg pl
    rw [← hat] at pl
    simp_arith! [F_Machine_step, mo, fo, rm, ri, ai, pg, pl, fi]
  | some r =>
    obtain ⟨hlt, hget⟩ := List.getElem?_eq_some_iff.mp hr
    have ro := hR _ hws r (by rw [← hget]; exact List.getElem_mem hlt)
    have rd : atD ((L.rows fm.whose).map Rk.D) (m.at_ : Int) = some r.D := by rw [atD_nat, List.getElem?_map, hr]; rfl
    have fa := c_fault (n + 2) x hL r hw
    have hne : ¬ m.at_ = (L.rows fm.whose).length := by omega
    have hne2 : ¬ (m.at_ : Int) = ((L.rows fm.whose).length : Int) := by omega
    dsimp only
    by_cases hf : fault fm r m = .run
    · rw [if_pos hf]
      rw [hf] at fa
      simp only [En.w] at fa
      obtain ⟨t1, t2, t3⟩ := fault_run hf
      have cs := c_cost (n + 4) x hL r hw t1
      have hcr := hc r hr hf
      generalize cost fm r m = co at cs hcr ⊢
      have x1 := x.frm hL m.at_ (m.used + co) m.ans m.en
      obtain ⟨ds, e2, r2⟩ := x1.sp
      have x2 := x1.stp hL e2 r2 (.at_ m.at_)
      have x3 := x2.frm hL (m.at_ + 1) (m.used + co) m.ans m.en
      have dl : ds.length < 1000000 := by rw [r2.len]; show m.steps.length < _; omega
      obtain ⟨h1, hh1⟩ : ∃ h1, h.put F (frO F fm { m with at_ := m.at_, used := m.used + co, en := m.en, ans := m.ans }) = h1 := ⟨_, rfl⟩
      have fo1 := x1.fo
      have mo1 := x1.mo
      have mo2 := x2.mo
      rw [hh1] at x2 x3 fo1 e2 mo1 mo2
      obtain ⟨h2, hh2⟩ : ∃ h2, h1.put (F + 2) (.lst (ds ++ [D.int (m.at_ : Int)])) = h2 := ⟨_, rfl⟩
      have fo2 := x2.fo
      rw [hh2] at x3 fo2 mo2
      have mo3 := x3.mo
      obtain ⟨h3, hh3⟩ : ∃ h3, h2.put F (frO F fm { m with used := m.used + co, steps := m.steps ++ [.at_ m.at_], at_ := m.at_ + 1 }) = h3 := ⟨_, rfl⟩
      have x3' : Run L M F fm { m with used := m.used + co, steps := m.steps ++ [.at_ m.at_], at_ := m.at_ + 1 } h3 := by rw [← hh3]; exact x3
      have mo3 := x3'.mo
      obtain ⟨g, e, X3, fx⟩ := c_done (go := go) n b x3' hL hw r _ ro t1 hl hu ⟨hj, hb, hs, by show (m.steps ++ [_]).length < _; rw [List.length_append]; simp; omega⟩ hcr
      refine ⟨g, ?_, X3, ?_⟩
      · unfold frO at fo1 fo2 hh1 hh3
        dsimp only at fo1 fo2 hh1 hh3
        have c1 : (((m.at_ + 1 : Nat)) : Int) = (m.at_ : Int) + 1 := by omega
        rw [c1] at hh3
        generalize hpq : (L.rows fm.whose).map Rk.D = pq at pg pl rd
        generalize (L.rows fm.whose).length = pn at pl hne hne2
        generalize r.D = d at rd fa cs e
        simp_arith! [F_Machine_step, mo, fo, rm, ri, ai, pg, pl, hne, hne2, rd, fa, cs, hh1, mo1, fo1, e2, dl, hh2, mo2, fo2, hh3, mo3, e]
      · have a1 : Fx L F h h1 := by rw [← hh1]; exact Fx.put0
        have a2 : Fx L F h1 h2 := by rw [← hh2]; exact Fx.put2
        have a3 : Fx L F h2 h3 := by rw [← hh3]; exact Fx.put0
        exact ((a1.trans a2).trans a3).trans fx
    · rw [if_neg hf]
      have fi := c_finish (n + 5) x (fault fm r m) 0
      have X2 := x.frm hL m.at_ m.used 0 (fault fm r m)
      have hz := En.ne_run hf
      refine ⟨_, ?_, X2, Fx.put0⟩
      generalize hO : frO F fm _ = O at fi ⊢
      clear hO
      generalize (L.rows fm.whose).map Rk.D = pq at pg pl rd
      generalize (L.rows fm.whose).length = pn at pl hne hne2
      generalize Str.ofString (fault fm r m).w = z at fa fi hz
      generalize r.D = d at rd fa
      simp_arith! [F_Machine_step, mo, fo, rm, ri, ai, pg, pl, hne, hne2, rd, fa, hz, fi]
end

section
variable {L : Lay} {M F : Nat} {fm : Fm} {m : MS} {h : Hm} {go : Fm → S → List Dd → MS}
theorem whl_go {ft : Env → Hm → Res Bool} {fb : Env → Hm → Out} {n : Nat} {env env2 : Env} {h h2 : Hm} (e1 : ft env h = some (.ok true, h)) (e2 : fb env h = some (.nx, env2, h2)) : whl ft fb (n + 1) env h = whl ft fb n env2 h2 := by
  rw [whl, e1]
  show thenS (fb env h) _ = _
  rw [e2]
  rfl
theorem whl_end {ft : Env → Hm → Res Bool} {fb : Env → Hm → Out} {n : Nat} {env : Env} {h : Hm} (e1 : ft env h = some (.ok false, h)) : whl ft fb (n + 1) env h = some (.nx, env, h) := by
  rw [whl, e1]; rfl
theorem whl_turns (n : Nat) {f : Fm} (I : MS → Prop) (G : MS → MS) (K : Option D) (hstep : ∀ m h, I m → m.en = .run → Run L M F f m h → I (G m) ∧ ∃ g, callF PR (n + 1) "Machine.step" [.ref M, .ref F] h = some (.ok .non, g) ∧ Run L M F f (G m) g ∧ Fx L F h g) :
    ∀ (k lim : Nat) (m : MS) (h : Hm), I m → Run L M F f m h → (iter G k m).en ≠ .run → k < lim → ∃ g, whl (fun e1 h1 => evT PR (callF PR (n + 1)) (.cmp .eq (.att (.var 1) "end") (.con (.str ""))) e1 h1) (fun e1 h1 => ex PR (callF PR (n + 1)) (.drop (.meth (.var 0) "step" (.cons (.var 1) (.nil)) [])) e1 h1) lim [some (.ref M), some (.ref F), K] h = some (.nx, [some (.ref M), some (.ref F), K], g) ∧ Run L M F f (iter G k m) g ∧ Fx L F h g
  | k, 0, m, h, i, x, he, hl => by omega
  | 0, lim + 1, m, h, i, x, he, hl => by
    have he : m.en ≠ .run := he
    have hz := En.ne_run he
    have fo := x.fo
    unfold frO at fo
    refine ⟨h, whl_end ?_, x, Fx.refl⟩
    generalize Str.ofString m.en.w = z at fo hz
    simp_arith! [fo, hz]
  | k + 1, lim + 1, m, h, i, x, he, hl => by
    have fo := x.fo
    unfold frO at fo
    unfold iter at he ⊢
    by_cases hr : m.en = .run
    · rw [if_pos hr] at he ⊢
      obtain ⟨i2, g, e, x2, f2⟩ := hstep m h i hr x
      obtain ⟨g3, e3, x3, f3⟩ := whl_turns n I G K hstep k lim (G m) g i2 x2 he (by omega)
      refine ⟨g3, ?_, x3, f2.trans f3⟩
      have mo := x.mo
      rw [hr] at fo
      simp only [En.w] at fo
      rw [whl_go (h2 := g) (env2 := [some (.ref M), some (.ref F), K]) (by simp_arith! [fo]) (by simp_arith! [mo, fo, e])]
      exact e3
    · rw [if_neg hr] at he ⊢
      have hz := En.ne_run hr
      refine ⟨h, whl_end ?_, x, Fx.refl⟩
      generalize Str.ofString m.en.w = z at fo hz
      simp_arith! [fo, hz]
abbrev GB : Z.S := F_Machine_go.body
structure Bd (b : Nat) (f : Fm) (js : List Dd) : Prop where
  j : (js.length : Int) + f.given + (9 - f.depth) ≤ 800000
  b : (b : Int) + f.given + (9 - f.depth) ≤ 800000
  g : f.given ≤ 100000
  d : f.depth ≤ 8
theorem c_go (hL : L.Ok) (hR : L.Rw) (j : Nat) : ∀ (d : Nat) (f : Fm) (s : S) (js : List Dd) (b : Nat), f.depth + (d : Int) = 9 → FmOk L f s → Good L s → Sml b s → Bd b f js → Goes L M (4 * d + 4 + j) (goP L d) f s js
  | 0, f, s, js, b, h1, F, g, sb, bd => by have := bd.d; omega
  | d + 1, f, s, js, b, h1, Fo, gd, sb, bd => by
    intro F h x
    have e4 : 4 * (d + 1) + 4 + j = 4 * d + j + 8 := by omega
    rw [e4, callF_eq fn_Machine_go rfl]
    have sp : F_Machine_go.body = .seq GB.hd (.seq (GB.from 1).hd (.seq (GB.from 2).hd (GB.from 3))) := rfl
    rw [sp]
    obtain ⟨as0, J0, ja0, _⟩ := x.jn
    have mo := x.mo
    have fo := x.fo
    have jo := J0.jo
    have al : as0.length = js.length := by
      have : (as0.map (·.2)).length = js.length := congrArg List.length ja0
      rwa [List.length_map] at this
    have mk := c_mark (4 * d + j + 6) J0
    rw [al] at mk
    have t0 : ex PR (callF PR (4 * d + j + 7)) GB.hd (start F_Machine_go.ns [.ref M, .ref F]) h = some (.nx, [some (.ref M), some (.ref F), some (.int (js.length : Int))], h) := by
      unfold frO at fo
      simp_arith! [GB, F_Machine_go, Z.S.hd, Z.S.tl, Z.S.from, mo, jo, mk]
    rw [seq_nx t0]
    have g0 := Fo.g0
    have bj := bd.j
    have bb := bd.b
    have bg := bd.g
    have bdd := bd.d
    have t1 : ∃ h1, ex PR (callF PR (4 * d + j + 7)) (GB.from 1).hd [some (.ref M), some (.ref F), some (.int (js.length : Int))] h = some (.nx, [some (.ref M), some (.ref F), some (.int (js.length : Int))], h1) ∧ Run L M F f (first f s js) h1 ∧ Fx L F h h1 := by
      unfold first
      by_cases hk : f.kind = .call ∧ 0 < f.coin
      · rw [if_pos hk]
        obtain ⟨hk1, hk2⟩ := hk
        obtain ⟨c1, c2⟩ := Fo.mv hk1 hk2
        obtain ⟨x2, q1, q2, q3, q4⟩ := x.made hL (objD (.move f.caller f.who f.coin))
        obtain ⟨g, e, X, fx⟩ := c_record (4 * d + j + 3) _ b (.move f.caller f.who f.coin) x2 hL q1 q2 q3 q4 ⟨c1, Fo.who⟩ (by show js.length < _; omega) (by omega) sb (by show (0 : Nat) < _; omega)
        refine ⟨g, ?_, X, (Fx.gro .new).trans fx⟩
        have si := c_move_init (4 * d + j + 6) h.next f.caller f.who f.coin (h.new (.ins "Move" [])) (new_get_at ..)
        rw [show (h.new (.ins "Move" [])).put h.next (objD (.move f.caller f.who f.coin)) = h.new (objD (.move f.caller f.who f.coin)) from new_put ..] at si
        generalize h.new (objD (.move f.caller f.who f.coin)) = hn at si e
        unfold frO at fo
        rw [hk1] at fo
        simp only [Kd.w] at fo
        simp_arith! [GB, F_Machine_go, Z.S.hd, Z.S.tl, Z.S.from, mo, fo, si, e, hk2]
      · rw [if_neg hk]
        refine ⟨h, ?_, x, Fx.refl⟩
        unfold frO at fo
        by_cases hk1 : f.kind = .call
        · have hk2 : ¬ 0 < f.coin := fun z => hk ⟨hk1, z⟩
          rw [hk1] at fo
          simp only [Kd.w] at fo
          simp_arith! [GB, F_Machine_go, Z.S.hd, Z.S.tl, Z.S.from, mo, fo, hk2]
        · have hz : ¬ Str.ofString f.kind.w = Str.ofString "call" := by
            revert hk1
            cases f.kind <;> simp [Kd.w]
          generalize Str.ofString f.kind.w = z at fo hz
          simp_arith! [GB, F_Machine_go, Z.S.hd, Z.S.tl, Z.S.from, mo, fo, hz]
    obtain ⟨h1', e1, x1, fx1⟩ := t1
    rw [seq_nx e1]
    have hgo : ∀ f' s js, f'.depth = f.depth + 1 → f'.depth ≤ 8 → FmOk L f' s → Good L s → GoOk L f' s js (goP L d f' s js) := fun f' s js e1 e2 => goP_ok hL hR d f' s js (by omega) e2
    obtain ⟨I2, he2⟩ := goP_turns hL hR d f s js Fo gd hgo
    obtain ⟨h2, e2, x2, fx2⟩ := whl_turns (4 * d + j + 6) (Inv L f s js) (step (goP L d) L f) (some (.int (js.length : Int))) (fun m h i hr x => by
      refine ⟨(inv_step hL hR Fo.who Fo.whose Fo.cal Fo.coi Fo.wor i hgo).1, ?_⟩
      obtain ⟨ds, ej, w, l⟩ := i.way
      have us := i.us
      have jl : m.js.length = js.length + ds.length := by rw [ej, List.length_append]
      have stl := i.stl
      refine c_step (4 * d + j) (b + ds.length) x hL Fo.who Fo.whose hR i.at_ i.len i.u (by omega) (by omega) (w.small sb) (by omega) fun r hrow hf k i0 c a wd uc ua uw hkc hb => ?_
      obtain ⟨t1, t2, t3⟩ := fault_run hf
      have cp : 1 ≤ cost f r m := r.price_pos _
      generalize cost f r m = co at t3 cp ⊢
      obtain ⟨kk, kd, kc⟩ := inner_kind f k i0 c wd
      have hb' := hb
      unfold unbegun at hb'
      have hon : L.on i0 = true := by
        cases e : L.on i0 with
        | true => rfl
        | false => rw [e, if_pos rfl] at hb'; cases hb'
      rw [hon, if_neg (by simp)] at hb'
      by_cases hd : 8 < f.depth + 1
      · rw [if_pos hd] at hb'; cases hb'
      rw [if_neg hd] at hb'
      have hp : ¬ (k = .call ∧ m.s.c f.who < c) := fun z => by rw [if_pos z] at hb'; cases hb'
      show Goes L M (4 * d + j + 4) (goP L d) { inner f k i0 c wd with given := if f.given - (m.used + co) < a then f.given - (m.used + co) else a } m.s m.js
      obtain ⟨gv, hg⟩ : ∃ gv, (if f.given - (m.used + co) < a then f.given - (m.used + co) else a) = gv := ⟨_, rfl⟩
      have gv0 : 0 ≤ gv ∧ gv ≤ f.given - (m.used + co) := by have := ua.1; rw [← hg]; split <;> omega
      rw [hg]
      have wU : U f.who := by obtain ⟨a, b⟩ := hL.sm _ Fo.who; exact ⟨a, by omega⟩
      have fo' : FmOk L { inner f k i0 c wd with given := gv } m.s := by
        cases k with
        | call => exact ⟨hon, hon, wU, uc, uw, gv0.1, fun _ _ => ⟨Fo.who, Int.not_lt.mp fun z => hp ⟨rfl, z⟩⟩⟩
        | borrow => exact ⟨Fo.who, hon, Fo.cal, Fo.coi, uw, gv0.1, fun z => by cases z⟩
        | look => exact ⟨hon, hon, wU, uc, uw, gv0.1, fun z => by cases z⟩
      have e5 : 4 * d + j + 4 = 4 * d + 4 + j := by omega
      rw [e5]
      refine c_go hL hR j d { inner f k i0 c wd with given := gv } m.s m.js (b + ds.length) ?_ fo' i.gd (w.small sb) ⟨?_, ?_, ?_, ?_⟩
      · show (inner f k i0 c wd).depth + _ = _; rw [kd]; omega
      · show _ + gv + (9 - (inner f k i0 c wd).depth) ≤ _; rw [kd]; omega
      · show _ + gv + (9 - (inner f k i0 c wd).depth) ≤ _; rw [kd]; omega
      · show gv ≤ _; omega
      · show (inner f k i0 c wd).depth ≤ _; rw [kd]; omega) (f.given.toNat + 1) 1000000 (first f s js) h1' (first_inv hL Fo gd) x1 he2 (by omega)
    have t2 : ex PR (callF PR (4 * d + j + 7)) (GB.from 2).hd [some (.ref M), some (.ref F), some (.int (js.length : Int))] h1' = some (.nx, [some (.ref M), some (.ref F), some (.int (js.length : Int))], h2) := by
      have lf : PR.lf = 1000000 := rfl
      have hw : (GB.from 2).hd = .wh (.cmp .eq (.att (.var 1) "end") (.con (.str ""))) (.drop (.meth (.var 0) "step" (.cons (.var 1) (.nil)) [])) := rfl
      rw [hw, ex, lf]
      exact e2
    rw [seq_nx t2, goP_eq]
    generalize hm : iter (step (goP L d) L f) (f.given.toNat + 1) (first f s js) = m at x2 I2 he2 ⊢
    have fo2 := x2.fo
    have mo2 := x2.mo
    obtain ⟨as, J, ja, av⟩ := x2.jn
    have jo2 := J.jo
    by_cases hwell : m.en = .well
    · rw [if_pos hwell]
      refine ⟨h2, ?_, x2, fx1.trans fx2⟩
      unfold frO at fo2
      rw [hwell] at fo2
      simp only [En.w] at fo2
      simp_arith! [GB, F_Machine_go, Z.S.hd, Z.S.tl, Z.S.from, fo2]
    · rw [if_neg hwell]
      obtain ⟨ds, ej, w, l⟩ := I2.way
      have us := I2.us
      have asl : as.length = js.length + ds.length := by
        have : (as.map (·.2)).length = m.js.length := congrArg List.length ja
        rw [List.length_map, ej, List.length_append] at this; exact this
      have sp2 : as = as.take js.length ++ as.drop js.length := (List.take_append_drop ..).symm
      have m1 : (as.take js.length).map (·.2) = js := by rw [List.map_take, ja, ej, List.take_left']; rfl
      have m2 : (as.drop js.length).map (·.2) = ds := by rw [List.map_drop, ja, ej, List.drop_left']; rfl
      have tl : (as.take js.length).length = js.length := by rw [List.length_take]; omega
      have dl : (as.drop js.length).length = ds.length := by rw [List.length_drop]; omega
      rw [sp2] at J
      obtain ⟨g, e3, J3, n3, o3⟩ := c_back (4 * d + j + 4) b s (as.take js.length) (as.drop js.length) J hL (by rw [m2]; exact w) sb (by rw [dl]; omega)
      rw [tl] at e3
      have kk := hL.kk
      have ns : ∀ b, L.B ≤ b → g.get b = h2.get b := fun b hb => o3 b (fun z => by have := Lay.ShB hL z; omega) (by omega)
      obtain ⟨ds2, es2, rs2⟩ := x2.sp
      have lM := x2.lM
      have lF := x2.lF
      refine ⟨g, ?_, ⟨(ns M lM.1).trans x2.mo, (ns F lF.1).trans x2.fo, (ns _ (by omega)).trans x2.st, ⟨ds2, (ns _ (by omega)).trans es2, RSps.mono (Nat.le_refl _) (by omega) (fun b hb _ => ns b (by omega)) rs2⟩, ⟨as.take js.length, J3, m1, fun y hy => av y (List.mem_of_mem_take hy)⟩, ⟨lM.1, by omega, lM.2.2⟩, lF.1, by omega⟩, (fx1.trans fx2).trans ⟨by omega, fun b h1 h2 h3 _ _ _ => o3 b h2 h3⟩⟩
      have hz : ¬ Str.ofString m.en.w = Str.ofString "well" := by
        revert hwell
        cases m.en <;> simp [En.w]
      unfold frO at fo2
      generalize Str.ofString m.en.w = z at fo2 hz
      simp_arith! [GB, F_Machine_go, Z.S.hd, Z.S.tl, Z.S.from, mo2, fo2, hz, jo2, e3]
end

section
variable {L : Lay} {s : S} {h : Hm} {as : List (Nat × Dd)}
theorem c_machine_init (n A R J : Nat) (h : Hm) (hA : h.get A = some (.ins "Machine" [])) : callF PR (n + 1) "Machine.__init__" [.ref A, .ref R, .ref J] h = some (.ok .non, h.put A (.ins "Machine" [("rooms", .ref R), ("journal", .ref J)])) := by
  rw [callF_eq fn_Machine_init rfl]
  simp_arith! [F_Machine_init, hA]
def top1 (who caller coin word given : Int) : Fm := ⟨.call, who, who, caller, coin, word, given, 1, false⟩
theorem c_enter (n b : Nat) (who caller coin word given : Int) (J : Jn L as s h) (hL : L.Ok) (hR : L.Rw) (F : FmOk L (top1 who caller coin word given) s) (gd : Good L s) (sb : Sml b s) (bd : Bd b (top1 who caller coin word given) (as.map (·.2))) :
    ∃ g a as', callF PR (n + 37) "enter" [.ref L.RM, .ref L.J, .int caller, .int who, .int coin, .int word, .int given] h = some (.ok (treeD (top1 who caller coin word given) (goP L 8 (top1 who caller coin word given) s (as.map (·.2))).en (goP L 8 (top1 who caller coin word given) s (as.map (·.2))).ans (goP L 8 (top1 who caller coin word given) s (as.map (·.2))).used a), g) ∧
      RSp g h.next (.sub (top1 who caller coin word given) (goP L 8 (top1 who caller coin word given) s (as.map (·.2))).en (goP L 8 (top1 who caller coin word given) s (as.map (·.2))).ans (goP L 8 (top1 who caller coin word given) s (as.map (·.2))).used (goP L 8 (top1 who caller coin word given) s (as.map (·.2))).steps) (treeD (top1 who caller coin word given) (goP L 8 (top1 who caller coin word given) s (as.map (·.2))).en (goP L 8 (top1 who caller coin word given) s (as.map (·.2))).ans (goP L 8 (top1 who caller coin word given) s (as.map (·.2))).used a) ∧
      Jn L as' (goP L 8 (top1 who caller coin word given) s (as.map (·.2))).s g ∧ as'.map (·.2) = (goP L 8 (top1 who caller coin word given) s (as.map (·.2))).js ∧ h.next ≤ g.next ∧ ∀ b, b < h.next → ¬ L.Sh b → b ≠ L.K → g.get b = h.get b := by
  rw [callF_eq fn_enter rfl]
  have nx := J.nx
  obtain ⟨f, hf⟩ : ∃ f, top1 who caller coin word given = f := ⟨_, rfl⟩
  rw [hf] at F bd ⊢
  have e0 := c_frame_init (n + 35) h.next .call who who caller coin word (h.new (.ins "Frame" [])) (new_get_at ..) rfl s (as.map (·.2))
  rw [new_put, show decide (Kd.call = Kd.look) = false from rfl] at e0
  have e0 : callF PR (n + 36) "Frame.__init__" [.ref h.next, .str (Str.ofString "call"), .int who, .int who, .int caller, .int coin, .int word] (h.new (.ins "Frame" [])) = some (.ok .non, laid h { f with given := 0 } (MS.start s (as.map (·.2)) .run)) := by rw [← hf]; exact e0
  have p0 := laid_put h { f with given := 0 } f (MS.start s (as.map (·.2)) .run) (MS.start s (as.map (·.2)) .run)
  have a0 := laid_at h { f with given := 0 } (MS.start s (as.map (·.2)) .run)
  have n0 := laid_next h f (MS.start s (as.map (·.2)) .run)
  obtain ⟨G1, hG1⟩ : ∃ G1, laid h f (MS.start s (as.map (·.2)) .run) = G1 := ⟨_, rfl⟩
  rw [hG1] at n0
  have e1 := c_machine_init (n + 35) G1.next L.RM L.J (G1.new (.ins "Machine" [])) (new_get_at ..)
  rw [new_put] at e1
  obtain ⟨G2, hG2⟩ : ∃ G2, G1.new (.ins "Machine" [("rooms", .ref L.RM), ("journal", .ref L.J)]) = G2 := ⟨_, rfl⟩
  rw [hG2] at e1
  have gr1 : Gro h G1 := by rw [← hG1]; exact laid_gro ..
  have gr12 : Gro G1 G2 := by rw [← hG2]; exact .new
  have gr2 := gr1.trans gr12
  have n2 : G2.next = h.next + 4 := by rw [← hG2, new_next, n0]
  have at1 : G1.get h.next = some (frO h.next f (MS.start s (as.map (·.2)) .run)) := by rw [← hG1]; exact laid_at ..
  have x : Run L G1.next h.next f (MS.start s (as.map (·.2)) .run) G2 := by
    refine ⟨by rw [← hG2]; exact new_get_at .., gr12.get at1 (by omega), gr12.get (by rw [← hG1]; exact laid_at1 ..) (by omega), ⟨[], gr12.get (by rw [← hG1]; exact laid_at2 ..) (by omega), .nil⟩, ⟨as, J.gro hL gr2, rfl, fun y hy => ?_⟩, ⟨by omega, by omega, by omega, by omega, by omega⟩, by omega, by omega⟩
    have := (J.ob y hy).2.1
    exact ⟨by omega, by omega, by omega⟩
  obtain ⟨G3, e2, y, fx⟩ := c_go (M := G1.next) hL hR n 8 f s (as.map (·.2)) b (by rw [← hf]; rfl) F gd sb bd h.next G2 x
  have e2 : callF PR (n + 36) "Machine.go" [.ref G1.next, .ref h.next] G2 = some (.ok .non, G3) := by rw [show n + 36 = 4 * 8 + 4 + n by omega]; exact e2
  have mo := x.mo
  generalize goP L 8 f s (as.map (·.2)) = r at y ⊢
  obtain ⟨ds, es, rs⟩ := y.sp
  have fo3 := y.fo
  have e3 := c_tree_raw (n + 35) ds fo3 es
  have le3 := fx.1
  obtain ⟨as', J3, ja3, _⟩ := y.jn
  refine ⟨G3.new (.lst ds), G3.next, as', ?_, ?_, J3.gro hL .new, ja3, by rw [new_next]; omega, fun b hb h1 h2 => ?_⟩
  · rw [hG1] at p0
    have g0 : f.given = given := by rw [← hf]; rfl
    rw [← g0]
    unfold frO at p0 a0 fo3
    dsimp only at p0 a0
    generalize treeD f r.en r.ans r.used G3.next = T at e3 ⊢
    generalize laid h { f with given := 0 } (MS.start s (as.map (·.2)) .run) = G0 at e0 a0 p0
    simp_arith! [F_enter, e0, a0, p0, e1, hG2, mo, e2, fo3, e3]
  · exact .sub (by omega) (Nat.lt_succ_self _) (new_get_at ..) (RSps.mono (h := G3) (by omega) (Nat.le_succ _) (fun b _ hb => new_get_lt hb) rs)
  · rw [new_get_lt (by omega), fx.2 b (by omega) h1 h2 (by omega) (by omega) (by omega)]
    exact gr2.at_ b hb
end

inductive Same (h : Hm) : Nat → D → D → Prop
  | int {n : Nat} (i : Int) : Same h (n + 1) (.int i) (.int i)
  | str {n : Nat} (z : Str) : Same h (n + 1) (.str z) (.str z)
  | tup {n : Nat} {xs ys : List D} : xs.length = ys.length → xs.length < 1000000 → (∀ (i : Nat) (x y : D), xs[i]? = some x → ys[i]? = some y → Same h n x y) → Same h (n + 1) (.tup xs) (.tup ys)
  | lst {n : Nat} {a b : Nat} {xs ys : List D} : h.get a = some (.lst xs) → h.get b = some (.lst ys) → xs.length = ys.length → xs.length < 1000000 → (∀ (i : Nat) (x y : D), xs[i]? = some x → ys[i]? = some y → Same h n x y) → Same h (n + 1) (.ref a) (.ref b)
theorem RSps.ats {h : Hm} {lo : Nat} : ∀ {G : List Nat} {ds : List D}, RSps h lo (G.map Sp.at_) ds → ds = G.map fun (k : Nat) => D.int (k : Int)
  | [], _, .nil => rfl
  | k :: G, _, .cons (.at_ _) r => by rw [List.map_cons, ← RSps.ats r]

theorem c_same {h : Hm} : ∀ (n : Nat) (d d' : D), Same h n d d' → callF PR n "_law_alike" [d, d'] h = some (.ok (.bl true), h)
  | 0, d, d', s => by cases s
  | n + 1, d, d', s => by
    have ih := c_same (h := h) n
    rw [callF_eq fn_l_alike rfl]
    cases s with
    | int i => simp_arith [F_l_alike]
    | str z => simp_arith [F_l_alike]
    | @tup _ xs ys e l hx =>
      have l2 : ys.length < 1000000 := by omega
      simp_arith [F_l_alike, e]
      refine rel (fun r => r = some (.ok (.bl true), h)) (fun (i : Nat) => D.int (i : Int)) (fun _ env g => g = h ∧ ∃ v2, env = [some (.tup xs), some (.tup ys), v2]) ⟨rfl, _, rfl⟩ (fun _ _ _ _ => stays_nil _) ?_ ?_
      · rintro d i rest env g hd ⟨rfl, v2, rfl⟩
        have hi : i < ys.length := List.mem_range.mp (by rw [hd]; simp)
        have a1 : atD xs (i : Int) = some xs[i] := by rw [atD_nat, List.getElem?_eq_getElem (by omega)]
        have a2 : atD ys (i : Int) = some ys[i] := by rw [atD_nat, List.getElem?_eq_getElem hi]
        have c := ih _ _ (hx i xs[i] ys[i] (List.getElem?_eq_getElem (by omega)) (List.getElem?_eq_getElem hi))
        refine ⟨_, rfl, [some (.tup xs), some (.tup ys), some (.int (i : Int))], g, ?_, rfl, _, rfl⟩
        generalize xs[i] = x at a1 c
        generalize ys[i] = y at a2 c
        simp_arith! [a1, a2, c]
      · rintro env g ⟨rfl, v2, rfl⟩
        simp_arith []
    | @lst _ a b xs ys ea eb e l hx =>
      have l2 : ys.length < 1000000 := by omega
      simp_arith! [F_l_alike, e, ea, eb]
      refine rel (fun r => r = some (.ok (.bl true), h)) (fun (i : Nat) => D.int (i : Int)) (fun _ env g => g = h ∧ ∃ v2, env = [some (.ref a), some (.ref b), v2]) ⟨rfl, _, rfl⟩ (fun _ _ _ _ => stays_nil _) ?_ ?_
      · rintro d i rest env g hd ⟨rfl, v2, rfl⟩
        have hi : i < ys.length := List.mem_range.mp (by rw [hd]; simp)
        have a1 : atD xs (i : Int) = some xs[i] := by rw [atD_nat, List.getElem?_eq_getElem (by omega)]
        have a2 : atD ys (i : Int) = some ys[i] := by rw [atD_nat, List.getElem?_eq_getElem hi]
        have c := ih _ _ (hx i xs[i] ys[i] (List.getElem?_eq_getElem (by omega)) (List.getElem?_eq_getElem hi))
        refine ⟨_, rfl, [some (.ref a), some (.ref b), some (.int (i : Int))], g, ?_, rfl, _, rfl⟩
        generalize xs[i] = x at a1 c
        generalize ys[i] = y at a2 c
        simp_arith! [ea, eb, a1, a2, c]
      · rintro env g ⟨rfl, v2, rfl⟩
        simp_arith []

structure Pt where
  stk : List Int
  at_ : Nat
def Pt.ms (p : Pt) (s : S) (js : List Dd) (tr : List Nat) : MS := ⟨p.stk, p.at_, (tr.length : Int), tr.map Sp.at_, .run, 0, s, js⟩
def At (go : Fm → S → List Dd → MS) (L : Lay) (f : Fm) (s : S) (js : List Dd) (p : Pt) (tr : List Nat) : Prop :=
  ((tr.length : Int) ≤ f.given ∧ ∀ k, iter (step go L f) (k + tr.length) (MS.start s js .run) = iter (step go L f) k (p.ms s js tr)) ∨
  (f.given < (tr.length : Int) ∧ ∃ m, iter (step go L f) (f.given.toNat + 1) (MS.start s js .run) = m ∧ m.used = f.given ∧ m.steps = (tr.take f.given.toNat).map Sp.at_ ∧ m.en = .dry ∧ m.ans = 0)
theorem At.start (go : Fm → S → List Dd → MS) (L : Lay) (f : Fm) (s : S) (js : List Dd) (h : 0 ≤ f.given) : At go L f s js ⟨[], 0⟩ [] := .inl ⟨h, fun _ => rfl⟩
theorem At.next {go : Fm → S → List Dd → MS} {L : Lay} {f : Fm} {s : S} {js : List Dd} {p p' : Pt} {tr : List Nat} (x : At go L f s js p tr) (g0 : 0 ≤ f.given) (r : Rk) (hr : (L.rows f.whose)[p.at_]? = some r) (h1 : r.takes ≤ p.stk.length) (h2 : p.stk.length - r.takes + r.leaves ≤ 24) (h3 : f.still = false) (h4 : r.price (dear s f.who r p.stk) = 1)
    (ha : ∀ m : MS, m.stk = p.stk → m.at_ = p.at_ + 1 → act go L f r m = { m with stk := p'.stk, at_ := p'.at_ }) : At go L f s js p' (tr ++ [p.at_]) := by
  rcases x with ⟨hl, hx⟩ | ⟨hl, m, e, u, st, en, an⟩
  · by_cases hd : (tr.length : Int) = f.given
    · right
      refine ⟨by rw [List.length_append]; simp; omega, _, rfl, ?_⟩
      have hg : f.given.toNat + 1 = 1 + tr.length := by omega
      have hf : fault f r (p.ms s js tr) = .dry := by
        unfold fault
        rw [if_neg (by show ¬ p.stk.length < _; omega), if_neg (by show ¬ 24 < p.stk.length - _ + _; omega), h3, if_neg (by simp), if_pos]
        show f.given - (tr.length : Int) < r.price (dear s f.who r p.stk)
        rw [h4]; omega
      have e : iter (step go L f) (f.given.toNat + 1) (MS.start s js .run) = { p.ms s js tr with en := .dry, ans := 0 } := by
        rw [hg, hx 1]
        show (if (En.run : En) = .run then iter (step go L f) 0 (step go L f (p.ms s js tr)) else _) = _
        rw [if_pos rfl]
        show step go L f (p.ms s js tr) = _
        unfold step
        have hr' : (L.rows f.whose)[(p.ms s js tr).at_]? = some r := hr
        rw [hr']
        dsimp only
        rw [hf, if_neg (by decide)]
      rw [e]
      refine ⟨hd, ?_, rfl, rfl⟩
      have : (tr ++ [p.at_]).take f.given.toNat = tr := by rw [show f.given.toNat = tr.length by omega]; exact List.take_left' rfl
      rw [this]
      rfl
    · left
      refine ⟨by rw [List.length_append]; simp; omega, fun k => ?_⟩
      have hf : fault f r (p.ms s js tr) = .run := by
        unfold fault
        rw [if_neg (by show ¬ p.stk.length < _; omega), if_neg (by show ¬ 24 < p.stk.length - _ + _; omega), h3, if_neg (by simp), if_neg]
        show ¬ f.given - (tr.length : Int) < r.price (dear s f.who r p.stk)
        rw [h4]; omega
      have hk : k + (tr ++ [p.at_]).length = (k + 1) + tr.length := by rw [List.length_append]; simp; omega
      rw [hk, hx (k + 1)]
      show (if (En.run : En) = .run then iter (step go L f) k (step go L f (p.ms s js tr)) else _) = _
      rw [if_pos rfl]
      congr 1
      unfold step
      have hr' : (L.rows f.whose)[(p.ms s js tr).at_]? = some r := hr
      rw [hr']
      dsimp only
      rw [hf, if_pos rfl, ha _ rfl rfl]
      have hc : cost f r (p.ms s js tr) = 1 := h4
      rw [hc]
      unfold Pt.ms
      simp
  · right
    have hn : f.given.toNat ≤ tr.length := by omega
    exact ⟨by rw [List.length_append]; simp; omega, m, e, u, by rw [st, List.take_append_of_le_length hn], en, an⟩

section
variable {go : Fm → S → List Dd → MS} {L : Lay} {f : Fm} {s : S} {js : List Dd} {p p' : Pt} {tr : List Nat}
def Fin (go : Fm → S → List Dd → MS) (L : Lay) (f : Fm) (s : S) (js : List Dd) (tr : List Nat) (en : En) (ans : Int) : Prop := ∃ m, iter (step go L f) (f.given.toNat + 1) (MS.start s js .run) = m ∧
  (if (tr.length : Int) ≤ f.given then m.used = (tr.length : Int) ∧ m.steps = tr.map Sp.at_ ∧ m.en = en ∧ m.ans = ans else m.used = f.given ∧ m.steps = (tr.take f.given.toNat).map Sp.at_ ∧ m.en = .dry ∧ m.ans = 0)
theorem iter_done {F : MS → MS} {m : MS} (h : m.en ≠ .run) : ∀ k, iter F k m = m
  | 0 => rfl
  | k + 1 => by unfold iter; rw [if_neg h]
theorem At.len (x : At go L f s js p tr) (g0 : 0 ≤ f.given) (hr : (L.rows f.whose)[p.at_]? = none) : Fin go L f s js tr .well 0 := by
  rcases x with ⟨hl, hx⟩ | ⟨hl, m, e, u, st, en, an⟩
  · refine ⟨_, rfl, ?_⟩
    rw [if_pos hl]
    obtain ⟨k, hk⟩ : ∃ k, f.given.toNat + 1 = (k + 1) + tr.length := ⟨f.given.toNat - tr.length, by omega⟩
    rw [hk, hx (k + 1)]
    have e : iter (step go L f) (k + 1) (p.ms s js tr) = { p.ms s js tr with en := .well, ans := 0 } := by
      show (if (En.run : En) = .run then iter (step go L f) k (step go L f (p.ms s js tr)) else _) = _
      rw [if_pos rfl]
      have : step go L f (p.ms s js tr) = { p.ms s js tr with en := .well, ans := 0 } := by
        unfold step
        have hr' : (L.rows f.whose)[(p.ms s js tr).at_]? = none := hr
        rw [hr']
      rw [this, iter_done (by show En.well ≠ En.run; decide)]
    rw [e]
    exact ⟨rfl, rfl, rfl, rfl⟩
  · exact ⟨m, e, by rw [if_neg (by omega)]; exact ⟨u, st, en, an⟩⟩
theorem At.last (x : At go L f s js p tr) (g0 : 0 ≤ f.given) (r : Rk) (v : Int) (st : List Int) (en : En) (hen : (r = .give ∧ en = .well) ∨ (r = .fail ∧ en = .fail)) (hr : (L.rows f.whose)[p.at_]? = some r) (h1 : p.stk = v :: st) (h2 : p.stk.length ≤ 24) (h3 : f.still = false) : Fin go L f s js (tr ++ [p.at_]) en v := by
  have tk : r.takes = 1 ∧ r.leaves = 0 ∧ (∀ b, r.price b = 1) := by rcases hen with ⟨rfl, _⟩ | ⟨rfl, _⟩ <;> exact ⟨rfl, rfl, fun _ => rfl⟩
  obtain ⟨t1, t2, t3⟩ := tk
  have hlen : p.stk.length = st.length + 1 := by rw [h1]; rfl
  have er : en ≠ .run := by rcases hen with ⟨_, rfl⟩ | ⟨_, rfl⟩ <;> decide
  rcases x with ⟨hl, hx⟩ | ⟨hl, m, e, u, st', en', an⟩
  · refine ⟨_, rfl, ?_⟩
    by_cases hd : (tr.length : Int) = f.given
    · rw [if_neg (by rw [List.length_append]; simp; omega)]
      have hg : f.given.toNat + 1 = 1 + tr.length := by omega
      have hf : fault f r (p.ms s js tr) = .dry := by
        unfold fault
        rw [if_neg (by show ¬ p.stk.length < _; omega), if_neg (by show ¬ 24 < p.stk.length - _ + _; omega), h3, if_neg (by simp), if_pos]
        show f.given - (tr.length : Int) < r.price (dear s f.who r p.stk)
        rw [t3]; omega
      have e : iter (step go L f) (f.given.toNat + 1) (MS.start s js .run) = { p.ms s js tr with en := .dry, ans := 0 } := by
        rw [hg, hx 1]
        show (if (En.run : En) = .run then iter (step go L f) 0 (step go L f (p.ms s js tr)) else _) = _
        rw [if_pos rfl]
        show step go L f (p.ms s js tr) = _
        unfold step
        have hr' : (L.rows f.whose)[(p.ms s js tr).at_]? = some r := hr
        rw [hr']
        dsimp only
        rw [hf, if_neg (by decide)]
      rw [e]
      refine ⟨hd, ?_, rfl, rfl⟩
      rw [show (tr ++ [p.at_]).take f.given.toNat = tr by rw [show f.given.toNat = tr.length by omega]; exact List.take_left' rfl]
      rfl
    · rw [if_pos (by rw [List.length_append]; simp; omega)]
      have hf : fault f r (p.ms s js tr) = .run := by
        unfold fault
        rw [if_neg (by show ¬ p.stk.length < _; omega), if_neg (by show ¬ 24 < p.stk.length - _ + _; omega), h3, if_neg (by simp), if_neg]
        show ¬ f.given - (tr.length : Int) < r.price (dear s f.who r p.stk)
        rw [t3]; omega
      obtain ⟨k, hk⟩ : ∃ k, f.given.toNat + 1 = (k + 1) + tr.length := ⟨f.given.toNat - tr.length, by omega⟩
      have e : iter (step go L f) (f.given.toNat + 1) (MS.start s js .run) = { p.ms s js tr with stk := st, used := (tr.length : Int) + 1, steps := tr.map Sp.at_ ++ [.at_ p.at_], at_ := p.at_ + 1, en := en, ans := v } := by
        rw [hk, hx (k + 1)]
        show (if (En.run : En) = .run then iter (step go L f) k (step go L f (p.ms s js tr)) else _) = _
        rw [if_pos rfl]
        have : step go L f (p.ms s js tr) = { p.ms s js tr with stk := st, used := (tr.length : Int) + 1, steps := tr.map Sp.at_ ++ [.at_ p.at_], at_ := p.at_ + 1, en := en, ans := v } := by
          unfold step
          have hr' : (L.rows f.whose)[(p.ms s js tr).at_]? = some r := hr
          rw [hr']
          dsimp only
          rw [hf, if_pos rfl]
          have hc : cost f r (p.ms s js tr) = 1 := t3 _
          rw [hc]
          unfold Pt.ms
          rcases hen with ⟨rfl, rfl⟩ | ⟨rfl, rfl⟩ <;> (unfold act; rw [h1])
        rw [this, iter_done er]
      rw [e]
      refine ⟨?_, ?_, rfl, rfl⟩
      · show (tr.length : Int) + 1 = _
        rw [List.length_append]; simp
      · show tr.map Sp.at_ ++ [Sp.at_ p.at_] = _
        rw [List.map_append]; rfl
  · refine ⟨m, e, ?_⟩
    rw [if_neg (by rw [List.length_append]; simp; omega)]
    exact ⟨u, by rw [st', List.take_append_of_le_length (by omega)], en', an⟩
theorem At.dry (x : At go L f s js p tr) (h : f.given < (tr.length : Int)) (more : List Nat) (en : En) (ans : Int) : Fin go L f s js (tr ++ more) en ans := by
  rcases x with ⟨hl, hx⟩ | ⟨hl, m, e, u, st, en', an⟩
  · omega
  · refine ⟨m, e, ?_⟩
    rw [if_neg (by rw [List.length_append]; omega)]
    exact ⟨u, by rw [st, List.take_append_of_le_length (by omega)], en', an⟩
end

--CUT
theorem fm_at {α : Type} (A B : Nat → α) : ∀ n k, k < n → ((List.range n).flatMap fun k => [A k, B k])[2 * k]? = some (A k) ∧ ((List.range n).flatMap fun k => [A k, B k])[2 * k + 1]? = some (B k) := by
  have len : ∀ n, ((List.range n).flatMap fun k => [A k, B k]).length = 2 * n := by
    intro n
    induction n with
    | zero => rfl
    | succ n ih => rw [List.range_succ, List.flatMap_append, List.length_append, ih]; simp; omega
  intro n
  induction n with
  | zero => intro k h; omega
  | succ n ih =>
    intro k h
    rw [List.range_succ, List.flatMap_append]
    by_cases hk : k < n
    · obtain ⟨a, b⟩ := ih k hk
      have := len n
      rw [List.getElem?_append_left (by omega), List.getElem?_append_left (by omega)]
      exact ⟨a, b⟩
    · have : k = n := by omega
      subst this
      have := len k
      rw [List.getElem?_append_right (by omega), List.getElem?_append_right (by omega), this]
      have e1 : 2 * k - 2 * k = 0 := by omega
      have e2 : 2 * k + 1 - 2 * k = 1 := by omega
      rw [e1, e2]
      exact ⟨rfl, rfl⟩
theorem fm_len {α : Type} (A B : Nat → α) (n : Nat) : ((List.range n).flatMap fun k => [A k, B k]).length = 2 * n := by
  induction n with
  | zero => rfl
  | succ n ih => rw [List.range_succ, List.flatMap_append, List.length_append, ih]; simp; omega
def jr (o : Nat) : List Rk := (List.range o).flatMap fun k => [.jump (2 * k + 2), .drop]
def pr (x : Int) (p : Nat) : List Rk := (List.range p).flatMap fun (k : Nat) => [.push (x / ((k : Int) + 2)), .drop]
def lp (o : Nat) : List Rk := [.push 1, .sum .minus, .copy 0, .jumpif (2 * o + 1)]
def en32 (o p : Nat) (l : Int) : List Rk := if l < 0 then [.give] else [.push l, .jumpif (2 * o + 2 * p + 8), .fail]
def rows32 (o p : Nat) (x l : Int) : List Rk := jr o ++ ([.push x] ++ (pr x p ++ (lp o ++ en32 o p l)))
def pre32 (o : Nat) : List Nat := (List.range o).map (fun k => 2 * k) ++ [2 * o]
def turn32 (o p : Nat) : List Nat := (List.range (2 * p + 4)).map fun k => 2 * o + 1 + k
def gone32 (o p t : Nat) : List Nat := pre32 o ++ (List.replicate t (turn32 o p)).flatten
section
variable {o p : Nat} {x l : Int}
theorem r_jump {k : Nat} (h : k < o) : (rows32 o p x l)[2 * k]? = some (.jump (2 * k + 2)) := by
  have := fm_len (fun k => Rk.jump (2 * k + 2)) (fun _ => Rk.drop) o
  unfold rows32 jr
  rw [List.getElem?_append_left (by omega)]
  exact (fm_at _ _ o k h).1
theorem r_skip (i : Nat) : (rows32 o p x l)[2 * o + i]? = ([Rk.push x] ++ (pr x p ++ (lp o ++ en32 o p l)))[i]? := by
  have := fm_len (fun k => Rk.jump (2 * k + 2)) (fun _ => Rk.drop) o
  unfold rows32 jr
  rw [List.getElem?_append_right (by omega), this]
  congr 1
  omega
theorem r_first : (rows32 o p x l)[2 * o]? = some (.push x) := r_skip 0
theorem r_mid (i : Nat) : (rows32 o p x l)[2 * o + 1 + i]? = (pr x p ++ (lp o ++ en32 o p l))[i]? := by
  rw [Nat.add_assoc, r_skip, Nat.add_comm 1 i]
  rfl
theorem r_pair {k : Nat} (h : k < p) : (rows32 o p x l)[2 * o + 1 + 2 * k]? = some (.push (x / ((k : Int) + 2))) ∧ (rows32 o p x l)[2 * o + 1 + (2 * k + 1)]? = some .drop := by
  have := fm_len (fun k : Nat => Rk.push (x / ((k : Int) + 2))) (fun _ => Rk.drop) p
  have f := fm_at (fun k : Nat => Rk.push (x / ((k : Int) + 2))) (fun _ => Rk.drop) p k h
  rw [r_mid, r_mid]
  unfold pr
  constructor
  · rw [List.getElem?_append_left (by omega)]; exact f.1
  · rw [List.getElem?_append_left (by omega)]; exact f.2
theorem r_loop (i : Nat) : (rows32 o p x l)[2 * o + 1 + (2 * p + i)]? = (lp o ++ en32 o p l)[i]? := by
  have := fm_len (fun k : Nat => Rk.push (x / ((k : Int) + 2))) (fun _ => Rk.drop) p
  rw [r_mid]
  unfold pr
  rw [List.getElem?_append_right (by omega), this]
  congr 1
  omega
theorem r_end (i : Nat) : (rows32 o p x l)[2 * o + 2 * p + 5 + i]? = (en32 o p l)[i]? := by
  have := r_loop (o := o) (p := p) (x := x) (l := l) (4 + i)
  rw [show 2 * o + 1 + (2 * p + (4 + i)) = 2 * o + 2 * p + 5 + i by omega] at this
  rw [this]
  unfold lp
  rw [List.getElem?_append_right (by simp)]
  congr 1
  simp
end
section
variable {go : Fm → S → List Dd → MS} {L : Lay} {f : Fm} {s : S} {js : List Dd} {o p : Nat} {x l : Int}
theorem w_jumps (g0 : 0 ≤ f.given) (hs : f.still = false) (hr : L.rows f.whose = rows32 o p x l) : ∀ k, k ≤ o → At go L f s js ⟨[], 2 * k⟩ ((List.range k).map fun k => 2 * k)
  | 0, _ => At.start go L f s js g0
  | k + 1, h => by
    rw [List.range_succ, List.map_append]
    exact (w_jumps g0 hs hr k (by omega)).next (p' := ⟨[], 2 * (k + 1)⟩) g0 (.jump (2 * k + 2)) (by rw [hr]; exact r_jump (by omega)) (Nat.zero_le _) (by simp [Rk.takes, Rk.leaves]) hs rfl (fun m h1 h2 => by cases m; dsimp only at h1 h2; subst h1 h2; rfl)
theorem w_first (g0 : 0 ≤ f.given) (hs : f.still = false) (hr : L.rows f.whose = rows32 o p x l) : At go L f s js ⟨[x], 2 * o + 1⟩ (pre32 o) :=
  (w_jumps g0 hs hr o (Nat.le_refl _)).next (p' := ⟨[x], 2 * o + 1⟩) g0 (.push x) (by rw [hr]; exact r_first) (Nat.zero_le _) (by simp [Rk.takes, Rk.leaves]) hs rfl (fun m h1 h2 => by cases m; dsimp only at h1 h2; subst h1 h2; rfl)
theorem w_pairs (g0 : 0 ≤ f.given) (hs : f.still = false) (hr : L.rows f.whose = rows32 o p x l) (v : Int) (tr : List Nat) (a : At go L f s js ⟨[v], 2 * o + 1⟩ tr) : ∀ k, k ≤ p → At go L f s js ⟨[v], 2 * o + 1 + 2 * k⟩ (tr ++ (List.range (2 * k)).map fun k => 2 * o + 1 + k)
  | 0, _ => by simpa using a
  | k + 1, h => by
    obtain ⟨r1, r2⟩ := r_pair (o := o) (x := x) (l := l) (show k < p by omega)
    have b := (w_pairs g0 hs hr v tr a k (by omega)).next (p' := ⟨[x / ((k : Int) + 2), v], 2 * o + 1 + (2 * k + 1)⟩) g0 _ (by rw [hr]; exact r1) (Nat.zero_le _) (by simp [Rk.takes, Rk.leaves]) hs rfl (fun m h1 h2 => by cases m; dsimp only at h1 h2; subst h1 h2; rfl)
    have c := b.next (p' := ⟨[v], 2 * o + 1 + 2 * (k + 1)⟩) g0 .drop (by rw [hr]; exact r2) (by simp [Rk.takes]) (by simp [Rk.takes, Rk.leaves]) hs rfl (fun m h1 h2 => by cases m; dsimp only at h1 h2; subst h1 h2; rfl)
    have e : (List.range (2 * (k + 1))).map (fun k => 2 * o + 1 + k) = (List.range (2 * k)).map (fun k => 2 * o + 1 + k) ++ [2 * o + 1 + 2 * k] ++ [2 * o + 1 + (2 * k + 1)] := by
      rw [show 2 * (k + 1) = 2 * k + 1 + 1 by omega, List.range_succ, List.range_succ, List.map_append, List.map_append]; rfl
    rw [e, ← List.append_assoc, ← List.append_assoc]
    exact c
theorem w_turn (g0 : 0 ≤ f.given) (hs : f.still = false) (hr : L.rows f.whose = rows32 o p x l) (v : Int) (tr : List Nat) (a : At go L f s js ⟨[v], 2 * o + 1⟩ tr) : At go L f s js ⟨[(v - 1) % 18446744073709551616], if (v - 1) % 18446744073709551616 ≠ 0 then 2 * o + 1 else 2 * o + 2 * p + 5⟩ (tr ++ turn32 o p) := by
  have b := w_pairs g0 hs hr v tr a p (Nat.le_refl _)
  have rl := fun i => r_loop (o := o) (p := p) (x := x) (l := l) i
  have b1 := b.next (p' := ⟨[1, v], 2 * o + 1 + (2 * p + 1)⟩) g0 (.push 1) (by rw [hr]; exact rl 0) (Nat.zero_le _) (by simp [Rk.takes, Rk.leaves]) hs rfl (fun m h1 h2 => by cases m; dsimp only at h1 h2; subst h1 h2; rfl)
  have b2 := b1.next (p' := ⟨[(v - 1) % 18446744073709551616], 2 * o + 1 + (2 * p + 2)⟩) g0 (.sum .minus) (by rw [hr]; exact rl 1) (by simp [Rk.takes]) (by simp [Rk.takes, Rk.leaves]) hs rfl (fun m h1 h2 => by cases m; dsimp only at h1 h2; subst h1 h2; rfl)
  have b3 := b2.next (p' := ⟨[(v - 1) % 18446744073709551616, (v - 1) % 18446744073709551616], 2 * o + 1 + (2 * p + 3)⟩) g0 (.copy 0) (by rw [hr]; exact rl 2) (by simp [Rk.takes]) (by simp [Rk.takes, Rk.leaves]) hs rfl (fun m h1 h2 => by cases m; dsimp only at h1 h2; subst h1 h2; rfl)
  have b4 := b3.next (p' := ⟨[(v - 1) % 18446744073709551616], if (v - 1) % 18446744073709551616 ≠ 0 then 2 * o + 1 else 2 * o + 2 * p + 5⟩) g0 (.jumpif (2 * o + 1)) (by rw [hr]; exact rl 3) (by simp [Rk.takes]) (by simp [Rk.takes, Rk.leaves]) hs rfl (fun m h1 h2 => by
    have e : 2 * o + 1 + (2 * p + 3) + 1 = 2 * o + 2 * p + 5 := by omega
    dsimp only at h2
    rw [e] at h2
    cases m; dsimp only at h1 h2; subst h1 h2; rfl)
  have e : turn32 o p = (List.range (2 * p)).map (fun k => 2 * o + 1 + k) ++ [2 * o + 1 + 2 * p] ++ [2 * o + 1 + (2 * p + 1)] ++ [2 * o + 1 + (2 * p + 2)] ++ [2 * o + 1 + (2 * p + 3)] := by
    unfold turn32
    rw [show 2 * p + 4 = 2 * p + 1 + 1 + 1 + 1 by omega, List.range_succ, List.range_succ, List.range_succ, List.range_succ, List.map_append, List.map_append, List.map_append, List.map_append]; rfl
  rw [e, ← List.append_assoc, ← List.append_assoc, ← List.append_assoc, ← List.append_assoc]
  exact b4
theorem w_turns (g0 : 0 ≤ f.given) (hs : f.still = false) (hr : L.rows f.whose = rows32 o p x l) : ∀ t : Nat, (∀ j : Nat, 1 ≤ j → j < t → (x - (j : Int)) % 18446744073709551616 ≠ 0) → At go L f s js ⟨[if t = 0 then x else (x - (t : Int)) % 18446744073709551616], if t ≠ 0 ∧ (x - (t : Int)) % 18446744073709551616 = 0 then 2 * o + 2 * p + 5 else 2 * o + 1⟩ (gone32 o p t)
  | 0, _ => by
    have := w_first (go := go) (s := s) (js := js) g0 hs hr
    unfold gone32
    simpa using this
  | t + 1, h => by
    have a := w_turns g0 hs hr t fun j h1 h2 => h j h1 (by omega)
    have hat : (if t ≠ 0 ∧ (x - (t : Int)) % 18446744073709551616 = 0 then 2 * o + 2 * p + 5 else 2 * o + 1) = 2 * o + 1 := by
      rw [if_neg]
      rintro ⟨h1, h2⟩
      exact h t (by omega) (by omega) h2
    rw [hat] at a
    have b := w_turn g0 hs hr _ _ a
    have e1 : ((if t = 0 then x else (x - (t : Int)) % 18446744073709551616) - 1) % 18446744073709551616 = (x - ((t + 1 : Nat) : Int)) % 18446744073709551616 := by
      by_cases h0 : t = 0
      · subst h0; rfl
      · rw [if_neg h0]; omega
    have e2 : gone32 o p (t + 1) = gone32 o p t ++ turn32 o p := by
      unfold gone32
      rw [List.replicate_succ', List.flatten_append, ← List.append_assoc]; simp
    rw [e1] at b
    rw [e2, if_neg (by omega)]
    have e3 : (if t + 1 ≠ 0 ∧ (x - ((t + 1 : Nat) : Int)) % 18446744073709551616 = 0 then 2 * o + 2 * p + 5 else 2 * o + 1) = (if (x - ((t + 1 : Nat) : Int)) % 18446744073709551616 ≠ 0 then 2 * o + 1 else 2 * o + 2 * p + 5) := by
      by_cases hz : (x - ((t + 1 : Nat) : Int)) % 18446744073709551616 = 0
      · rw [if_pos ⟨by omega, hz⟩, if_neg (by simpa using hz)]
      · rw [if_neg (fun z => hz z.2), if_pos hz]
    rw [e3]
    exact b
def due32 (o p t : Nat) (l : Int) : List Nat := gone32 o p t ++ (if l < 0 then [2 * o + 2 * p + 5] else [2 * o + 2 * p + 5, 2 * o + 2 * p + 6] ++ (if l = 0 then [2 * o + 2 * p + 7] else []))
theorem way32 (g0 : 0 ≤ f.given) (hs : f.still = false) (hr : L.rows f.whose = rows32 o p x l) (t : Nat) (h1 : 1 ≤ t) (hj : ∀ j : Nat, 1 ≤ j → j < t → (x - (j : Int)) % 18446744073709551616 ≠ 0) (hx : (x - (t : Int)) % 18446744073709551616 = 0 ∨ f.given < ((gone32 o p t).length : Int)) :
    Fin go L f s js (due32 o p t l) (if l = 0 then .fail else .well) 0 := by
  have a := w_turns (go := go) (s := s) (js := js) g0 hs hr t hj
  unfold due32
  rcases hx with hx | hx
  · rw [if_neg (by omega), if_pos ⟨by omega, hx⟩, hx] at a
    have re := fun i => r_end (o := o) (p := p) (x := x) (l := l) i
    unfold en32 at re
    by_cases hl : l < 0
    · rw [if_pos hl] at re ⊢
      rw [if_neg (by omega)]
      exact a.last g0 .give 0 [] .well (.inl ⟨rfl, rfl⟩) (by rw [hr]; exact re 0) rfl (by simp) hs
    · rw [if_neg hl] at re ⊢
      have b := a.next (p' := ⟨[l, 0], 2 * o + 2 * p + 6⟩) g0 (.push l) (by rw [hr]; exact re 0) (Nat.zero_le _) (by simp [Rk.takes, Rk.leaves]) hs rfl (fun m h1 h2 => by cases m; dsimp only at h1 h2; subst h1 h2; rfl)
      have c := b.next (p' := ⟨[0], if l ≠ 0 then 2 * o + 2 * p + 8 else 2 * o + 2 * p + 7⟩) g0 (.jumpif (2 * o + 2 * p + 8)) (by rw [hr]; exact re 1) (by simp [Rk.takes]) (by simp [Rk.takes, Rk.leaves]) hs rfl (fun m h1 h2 => by cases m; dsimp only at h1 h2; subst h1 h2; rfl)
      by_cases h0 : l = 0
      · rw [if_pos h0, if_pos h0]
        rw [if_neg (by simpa using h0)] at c
        have d := c.last g0 .fail 0 [] .fail (.inr ⟨rfl, rfl⟩) (by rw [hr]; exact re 2) rfl (by simp) hs
        simpa [List.append_assoc] using d
      · rw [if_neg h0, if_neg h0]
        rw [if_pos h0] at c
        have d := c.len g0 (by rw [hr]; exact re 3)
        simpa [List.append_assoc] using d
  · exact a.dry hx _ _ _
end

theorem range_pre {n : Nat} {d rest : List Nat} {c : Nat} (h : List.range n = d ++ c :: rest) : c = d.length ∧ c < n := by
  have hc : c ∈ List.range n := by rw [h]; simp
  have e : (List.range n)[d.length]? = some c := by rw [h, List.getElem?_append_right (Nat.le_refl _), Nat.sub_self]; rfl
  have hl : d.length < n := by have := congrArg List.length h; simp at this; omega
  rw [List.getElem?_range hl] at e
  exact ⟨(Option.some.inj e).symm, List.mem_range.mp hc⟩
theorem jr_snoc (k : Nat) : (jr (k + 1)).map Rk.D = (jr k).map Rk.D ++ [.tup [.str (Str.ofString "jump"), .int (2 * (k : Int) + 2)]] ++ [.tup [.str (Str.ofString "drop")]] := by
  unfold jr
  rw [List.range_succ, List.flatMap_append, List.map_append, List.append_assoc]
  rfl
theorem pr_snoc (x : Int) (k : Nat) : (pr x (k + 1)).map Rk.D = (pr x k).map Rk.D ++ [.tup [.str (Str.ofString "push"), .int (x / ((k : Int) + 2))]] ++ [.tup [.str (Str.ofString "drop")]] := by
  unfold pr
  rw [List.range_succ, List.flatMap_append, List.map_append, List.append_assoc]
  rfl
theorem jr_len (k : Nat) : (jr k).length = 2 * k := fm_len _ _ k
theorem pr_len (x : Int) (k : Nat) : (pr x k).length = 2 * k := fm_len (fun k : Nat => Rk.push (x / ((k : Int) + 2))) (fun _ => Rk.drop) k
theorem c_program (n o p : Nat) (x l : Int) (h : Hm) (ho : o ≤ 10) (hp : p ≤ 10) : ∃ g a, callF PR (n + 1) "_law_program" [.int (o : Int), .int x, .int (p : Int), .int l] h = some (.ok (.ref a), g) ∧ Gro h g ∧ a < g.next ∧ g.get a = some (.lst ((rows32 o p x l).map Rk.D)) := by
  rw [callF_eq fn_l_program rfl]
  simp_arith [F_l_program]
  refine rel (fun r => ∃ g a, r = some (.ok (.ref a), g) ∧ Gro h g ∧ a < g.next ∧ g.get a = some (.lst ((rows32 o p x l).map Rk.D))) (fun (i : Nat) => D.int (i : Int)) (fun d env g => g = h.new (.lst ((jr d.length).map Rk.D)) ∧ ∃ v5, env = [some (.int (o : Int)), some (.int x), some (.int (p : Int)), some (.int l), some (.ref h.next), v5, none]) ⟨rfl, _, rfl⟩ (fun _ _ _ _ => stays_nil _) ?_ ?_
  · rintro d c rest env g hd ⟨rfl, v5, rfl⟩
    obtain ⟨rfl, hc⟩ := range_pre hd
    have jl := jr_len d.length
    refine ⟨_, rfl, [some (.int (o : Int)), some (.int x), some (.int (p : Int)), some (.int l), some (.ref h.next), some (.int (d.length : Int)), none], _, ?_, by rw [List.length_append], _, rfl⟩
    have e : (jr (d.length + [d.length].length)).map Rk.D = (jr d.length).map Rk.D ++ [.tup [.str (Str.ofString "jump"), .int (2 * (d.length : Int) + 2)]] ++ [.tup [.str (Str.ofString "drop")]] := jr_snoc _
    rw [e]
    have l1 : ((jr d.length).map Rk.D).length = 2 * d.length := by rw [List.length_map, jl]
    generalize (jr d.length).map Rk.D = q at l1 ⊢
    have l2 : q.length < 1000000 := by omega
    have l3 : (q.length : Int) = 2 * (d.length : Int) := by omega
    simp_arith [l2, l3, l1]
  · rintro env g ⟨rfl, v5, rfl⟩
    have jl := jr_len o
    have l1 : ((jr o).map Rk.D).length = 2 * o := by rw [List.length_map, jl]
    have er : (rows32 o p x l).map Rk.D = (jr o).map Rk.D ++ ([.tup [.str (Str.ofString "push"), .int x]] ++ ((pr x p).map Rk.D ++ ((lp o).map Rk.D ++ (en32 o p l).map Rk.D))) := by unfold rows32; simp only [List.map_append]; rfl
    rw [er]
    simp only [List.length_range]
    generalize (jr o).map Rk.D = q at l1 ⊢
    have l2 : q.length < 1000000 := by omega
    simp_arith [l2, l1]
    refine rel (fun r => ∃ g a, r = some (.ok (.ref a), g) ∧ Gro h g ∧ a < g.next ∧ g.get a = some (.lst (q ++ ([.tup [.str (Str.ofString "push"), .int x]] ++ ((pr x p).map Rk.D ++ ((lp o).map Rk.D ++ (en32 o p l).map Rk.D)))))) (fun (i : Nat) => D.int (i : Int)) (fun d env g => g = h.new (.lst (q ++ [D.tup [.str (Str.ofString "push"), .int x]] ++ (pr x d.length).map Rk.D)) ∧ ∃ v5, env = [some (.int (o : Int)), some (.int x), some (.int (p : Int)), some (.int l), some (.ref h.next), v5, some (.int (2 * (o : Int) + 1))]) ⟨?_, _, rfl⟩ (fun _ _ _ _ => stays_nil _) ?_ ?_
    · show _ = h.new (.lst (q ++ [_] ++ []))
      rw [List.append_nil]
    · rintro d c rest env g hd ⟨rfl, v5, rfl⟩
      obtain ⟨rfl, hc⟩ := range_pre hd
      have pl := pr_len x d.length
      refine ⟨_, rfl, [some (.int (o : Int)), some (.int x), some (.int (p : Int)), some (.int l), some (.ref h.next), some (.int (d.length : Int)), some (.int (2 * (o : Int) + 1))], _, ?_, by rw [List.length_append], _, rfl⟩
      have e : (pr x (d.length + [d.length].length)).map Rk.D = (pr x d.length).map Rk.D ++ [.tup [.str (Str.ofString "push"), .int (x / ((d.length : Int) + 2))]] ++ [.tup [.str (Str.ofString "drop")]] := pr_snoc _ _
      rw [e, ← List.append_assoc, ← List.append_assoc]
      have l3 : (q ++ [D.tup [.str (Str.ofString "push"), .int x]] ++ (pr x d.length).map Rk.D).length = 2 * o + 1 + 2 * d.length := by simp only [List.length_append, List.length_map, List.length_cons, List.length_nil]; omega
      generalize q ++ [D.tup [.str (Str.ofString "push"), .int x]] ++ (pr x d.length).map Rk.D = q2 at l3 ⊢
      have l4 : q2.length < 1000000 := by omega
      have l6 : (q2 ++ [D.tup [.str (Str.ofString "push"), .int (x / ((d.length : Int) + 2))]]).length < 1000000 := by rw [List.length_append]; simp; omega
      simp_arith [l4, l6]
    · rintro env g ⟨rfl, v5, rfl⟩
      have pl := pr_len x p
      simp only [List.length_range]
      have l3 : (q ++ [D.tup [.str (Str.ofString "push"), .int x]] ++ (pr x p).map Rk.D).length = 2 * o + 1 + 2 * p := by simp only [List.length_append, List.length_map, List.length_cons, List.length_nil]; omega
      have as2 : q ++ ([.tup [.str (Str.ofString "push"), .int x]] ++ ((pr x p).map Rk.D ++ ((lp o).map Rk.D ++ (en32 o p l).map Rk.D))) = q ++ [D.tup [.str (Str.ofString "push"), .int x]] ++ (pr x p).map Rk.D ++ (lp o).map Rk.D ++ (en32 o p l).map Rk.D := by simp only [List.append_assoc]
      rw [as2]
      generalize q ++ [D.tup [.str (Str.ofString "push"), .int x]] ++ (pr x p).map Rk.D = q2 at l3 ⊢
      have l4 : q2.length < 1000000 := by omega
      have elp : (lp o).map Rk.D = [.tup [.str (Str.ofString "push"), .int 1], .tup [.str (Str.ofString "minus")], .tup [.str (Str.ofString "copy"), .int 0], .tup [.str (Str.ofString "jumpif"), .int (2 * (o : Int) + 1)]] := rfl
      rw [elp]
      obtain ⟨q3, hq3⟩ : ∃ q3, q2 ++ [D.tup [.str (Str.ofString "push"), .int 1], .tup [.str (Str.ofString "minus")], .tup [.str (Str.ofString "copy"), .int 0], .tup [.str (Str.ofString "jumpif"), .int (2 * (o : Int) + 1)]] = q3 := ⟨_, rfl⟩
      have l5 : q3.length = 2 * o + 2 * p + 5 := by rw [← hq3, List.length_append]; simp; omega
      have l6 : (q3.length : Int) = 2 * (o : Int) + 2 * (p : Int) + 5 := by omega
      rw [hq3]
      by_cases hl : l < 0
      · have ee : (en32 o p l).map Rk.D = [.tup [.str (Str.ofString "give")]] := by unfold en32; rw [if_pos hl]; rfl
        rw [ee]
        obtain ⟨q4, hq4⟩ : ∃ q4, q3 ++ [D.tup [.str (Str.ofString "give")]] = q4 := ⟨_, rfl⟩
        rw [hq4]
        refine ⟨((((h.new (.lst q2)).new (.lst [.tup [.str (Str.ofString "push"), .int 1], .tup [.str (Str.ofString "minus")], .tup [.str (Str.ofString "copy"), .int 0], .tup [.str (Str.ofString "jumpif"), .int (2 * (o : Int) + 1)]])).new (.lst q3)).new (.lst [.tup [.str (Str.ofString "give")]])).new (.lst q4), h.next + 4, ?_, (((Gro.new.trans .new).trans .new).trans .new).trans .new, Nat.lt_succ_self _, new_get_at _ _⟩
        simp_arith [hq3, l4, l5, hq4, hl]
      · have ee : (en32 o p l).map Rk.D = [.tup [.str (Str.ofString "push"), .int l], .tup [.str (Str.ofString "jumpif"), .int (2 * (o : Int) + 2 * (p : Int) + 8)], .tup [.str (Str.ofString "fail")]] := by unfold en32; rw [if_neg hl]; rfl
        rw [ee]
        have l7 : (q3.length : Int) + 3 = 2 * (o : Int) + 2 * (p : Int) + 8 := by omega
        have l8 : 2 * (o : Int) + 2 * (p : Int) + 5 + 3 = 2 * (o : Int) + 2 * (p : Int) + 8 := by omega
        obtain ⟨q4, hq4⟩ : ∃ q4, q3 ++ [D.tup [.str (Str.ofString "push"), .int l], .tup [.str (Str.ofString "jumpif"), .int (2 * (o : Int) + 2 * (p : Int) + 8)], .tup [.str (Str.ofString "fail")]] = q4 := ⟨_, rfl⟩
        rw [hq4]
        refine ⟨((((h.new (.lst q2)).new (.lst [.tup [.str (Str.ofString "push"), .int 1], .tup [.str (Str.ofString "minus")], .tup [.str (Str.ofString "copy"), .int 0], .tup [.str (Str.ofString "jumpif"), .int (2 * (o : Int) + 1)]])).new (.lst q3)).new (.lst [.tup [.str (Str.ofString "push"), .int l], .tup [.str (Str.ofString "jumpif"), .int (2 * (o : Int) + 2 * (p : Int) + 8)], .tup [.str (Str.ofString "fail")]])).new (.lst q4), h.next + 4, ?_, (((Gro.new.trans .new).trans .new).trans .new).trans .new, Nat.lt_succ_self _, new_get_at _ _⟩
        simp_arith [hq3, l4, l5, l7, l8, hq4, hl]

theorem whl_rt {ft : Env → Hm → Res Bool} {fb : Env → Hm → Out} {n : Nat} {env env2 : Env} {h h2 : Hm} {r : D} (e1 : ft env h = some (.ok true, h)) (e2 : fb env h = some (.rt r, env2, h2)) : whl ft fb (n + 1) env h = some (.rt r, env2, h2) := by
  rw [whl, e1]
  show thenS (fb env h) _ = _
  rw [e2]
  rfl
def nD (l : List Nat) : List D := l.map fun (k : Nat) => D.int (k : Int)
theorem nD_app (a b : List Nat) : nD (a ++ b) = nD a ++ nD b := List.map_append
theorem nD_len (a : List Nat) : (nD a).length = a.length := List.length_map ..
theorem gone_len (o p t : Nat) : (gone32 o p t).length = o + 1 + t * (2 * p + 4) := by
  unfold gone32 pre32 turn32
  simp [List.length_append, List.length_flatten]
  omega
theorem gone_snoc (o p t : Nat) : gone32 o p (t + 1) = gone32 o p t ++ turn32 o p := by
  unfold gone32
  rw [List.replicate_succ', List.flatten_append, ← List.append_assoc]; simp
abbrev WB : Z.S := (F_l_gone.body.from 3).hd
theorem g_loop (n o p : Nat) (x most : Int) (hm : 0 ≤ most ∧ most ≤ 5000) (hp : p ≤ 10) (ho : o ≤ 10) (A : Nat) (hh : Hm) (lA : A + 1 < hh.next) (ht : hh.get (A + 1) = some (.lst (nD (turn32 o p)))) : ∀ (k t lim : Nat) (v7 : Option D), most.toNat ≤ t + k → k < lim → (∀ j : Nat, 1 ≤ j → j ≤ t → x ≠ (j : Int)) → (t : Int) ≤ most →
    ∃ (T : Nat) (fl : Fl) (env' : Env), whl (fun e1 h1 => evT PR (callF PR n) (.cmp .lt (.bi .len (.cons (.var 4) (.nil))) (.var 3)) e1 h1) (fun e1 h1 => ex PR (callF PR n) WB.bd e1 h1) lim [some (.int (o : Int)), some (.int x), some (.int (p : Int)), some (.int most), some (.ref A), some (.int (x - (t : Int))), some (.ref (A + 1)), v7, none] (hh.put A (.lst (nD (gone32 o p t)))) = some (fl, env', hh.put A (.lst (nD (gone32 o p T)))) ∧
      (∀ j : Nat, 1 ≤ j → j < T → x ≠ (j : Int)) ∧ (T : Int) ≤ most ∧ ((fl = .rt (.ref A) ∧ x = (T : Int) ∧ 1 ≤ T) ∨ (fl = .nx ∧ most ≤ ((gone32 o p T).length : Int) ∧ ∃ v5 v7, env' = [some (.int (o : Int)), some (.int x), some (.int (p : Int)), some (.int most), some (.ref A), v5, some (.ref (A + 1)), v7, none]))
  | k, t, 0, v7, h1, h2, h3, h4 => by omega
  | k, t, lim + 1, v7, h1, h2, h3, h4 => by
    have gl := gone_len o p t
    have gl2 : t * (2 * p + 4) ≤ 5000 * 24 := Nat.mul_le_mul (by omega) (by omega)
    have gl3 : t ≤ t * (2 * p + 4) := Nat.le_mul_of_pos_right _ (by omega)
    have nl := nD_len (gone32 o p t)
    by_cases hl : ((gone32 o p t).length : Int) < most
    · -- a turn
      have tk : (turn32 o p).length = 2 * p + 4 := by unfold turn32; simp
      have turn : ∃ v7', forL (fun e1 h2 => ex PR (callF PR n) (.drop (.bm .append (.var 4) (.cons (.var 7) (.nil)))) e1 h2) (.name 7) [(A + 1, .lst (nD (turn32 o p)))] (nD (turn32 o p)) [some (.int (o : Int)), some (.int x), some (.int (p : Int)), some (.int most), some (.ref A), some (.int (x - (t : Int))), some (.ref (A + 1)), v7, none] (hh.put A (.lst (nD (gone32 o p t)))) = some (.nx, [some (.int (o : Int)), some (.int x), some (.int (p : Int)), some (.int most), some (.ref A), some (.int (x - (t : Int))), some (.ref (A + 1)), v7', none], hh.put A (.lst (nD (gone32 o p (t + 1))))) := by
        obtain ⟨env', g, e, ⟨rfl, v7', rfl⟩⟩ := forL_rel (fb := fun e1 h2 => ex PR (callF PR n) (.drop (.bm .append (.var 4) (.cons (.var 7) (.nil)))) e1 h2) (g := .name 7) (gd := [(A + 1, .lst (nD (turn32 o p)))]) (cs := turn32 o p) (fun (i : Nat) => D.int (i : Int)) (fun d env g => g = hh.put A (.lst (nD (gone32 o p t ++ d))) ∧ ∃ v7, env = [some (.int (o : Int)), some (.int x), some (.int (p : Int)), some (.int most), some (.ref A), some (.int (x - (t : Int))), some (.ref (A + 1)), v7, none]) (env := [some (.int (o : Int)), some (.int x), some (.int (p : Int)), some (.int most), some (.ref A), some (.int (x - (t : Int))), some (.ref (A + 1)), v7, none]) (h := hh.put A (.lst (nD (gone32 o p t)))) ⟨by rw [List.append_nil], _, rfl⟩ (fun d env g i => by
          rw [i.1, stays_cons]
          exact ⟨by rw [put_get_ne (by omega)]; exact ht, stays_nil _⟩) (by
          rintro d c rest env g hd ⟨rfl, v7, rfl⟩
          have dl : d.length ≤ 2 * p + 4 := by have := congrArg List.length hd; rw [tk] at this; simp at this; omega
          refine ⟨_, rfl, [some (.int (o : Int)), some (.int x), some (.int (p : Int)), some (.int most), some (.ref A), some (.int (x - (t : Int))), some (.ref (A + 1)), some (.int (c : Int)), none], _, ?_, rfl, _, rfl⟩
          have e : nD (gone32 o p t ++ (d ++ [c])) = nD (gone32 o p t ++ d) ++ [.int (c : Int)] := by rw [← List.append_assoc, nD_app]; rfl
          rw [e]
          have ql : (nD (gone32 o p t ++ d)).length < 1000000 := by rw [nD_len, List.length_append]; omega
          generalize nD (gone32 o p t ++ d) = q at ql ⊢
          simp_arith [ql])
        rw [← gone_snoc] at e
        exact ⟨v7', e⟩
      obtain ⟨v7', et⟩ := turn
      have gl' := gone_len o p (t + 1)
      have hat : (hh.put A (.lst (nD (gone32 o p t)))).get (A + 1) = some (.lst (nD (turn32 o p))) := by rw [put_get_ne (by omega)]; exact ht
      have e1 : evT PR (callF PR n) (.cmp .lt (.bi .len (.cons (.var 4) (.nil))) (.var 3)) [some (.int (o : Int)), some (.int x), some (.int (p : Int)), some (.int most), some (.ref A), some (.int (x - (t : Int))), some (.ref (A + 1)), v7, none] (hh.put A (.lst (nD (gone32 o p t)))) = some (.ok true, hh.put A (.lst (nD (gone32 o p t)))) := by
        generalize nD (gone32 o p t) = q at nl
        simp_arith! [nl, hl]
      generalize nD (gone32 o p t) = q at nl et hat e1 ⊢
      have eb : WB.bd = .seq WB.bd.hd (.seq (WB.bd.from 1).hd (WB.bd.from 2)) := rfl
      have b0 : ex PR (callF PR n) WB.bd.hd [some (.int (o : Int)), some (.int x), some (.int (p : Int)), some (.int most), some (.ref A), some (.int (x - (t : Int))), some (.ref (A + 1)), v7, none] (hh.put A (.lst q)) = some (.nx, [some (.int (o : Int)), some (.int x), some (.int (p : Int)), some (.int most), some (.ref A), some (.int (x - (t : Int))), some (.ref (A + 1)), v7', none], hh.put A (.lst (nD (gone32 o p (t + 1))))) := by
        have hb : WB.bd.hd = .for_ (.name 7) .seq (.cons (.var 6) .nil) (.drop (.bm .append (.var 4) (.cons (.var 7) (.nil)))) := rfl
        rw [hb, ex_for_eq (vs := [.ref (A + 1)]) (h1 := hh.put A (.lst q)) (items := nD (turn32 o p)) (gd := [(A + 1, .lst (nD (turn32 o p)))]) (by simp_arith []) (by simp_arith [ht])]
        exact et
      have b1 : ex PR (callF PR n) (WB.bd.from 1).hd [some (.int (o : Int)), some (.int x), some (.int (p : Int)), some (.int most), some (.ref A), some (.int (x - (t : Int))), some (.ref (A + 1)), v7', none] (hh.put A (.lst (nD (gone32 o p (t + 1))))) = some (.nx, [some (.int (o : Int)), some (.int x), some (.int (p : Int)), some (.int most), some (.ref A), some (.int (x - ((t + 1 : Nat) : Int))), some (.ref (A + 1)), v7', none], hh.put A (.lst (nD (gone32 o p (t + 1))))) := by
        have e : x - ((t + 1 : Nat) : Int) = x - (t : Int) - 1 := by omega
        rw [e]
        generalize nD (gone32 o p (t + 1)) = q2
        simp_arith [WB, F_l_gone, Z.S.hd, Z.S.tl, Z.S.from, Z.S.bd]
      by_cases hx : x = ((t + 1 : Nat) : Int)
      · refine ⟨t + 1, .rt (.ref A), [some (.int (o : Int)), some (.int x), some (.int (p : Int)), some (.int most), some (.ref A), some (.int (x - ((t + 1 : Nat) : Int))), some (.ref (A + 1)), v7', none], whl_rt e1 ?_, fun j a b => h3 j a (by omega), by omega, .inl ⟨rfl, hx, by omega⟩⟩
        show ex PR (callF PR n) WB.bd _ _ = _
        rw [eb, seq_nx b0, seq_nx b1]
        have hz : x - ((t + 1 : Nat) : Int) = 0 := by omega
        rw [hz]
        generalize nD (gone32 o p (t + 1)) = q2
        simp_arith [WB, F_l_gone, Z.S.hd, Z.S.tl, Z.S.from, Z.S.bd]
      · have hz : ¬ x - ((t + 1 : Nat) : Int) = 0 := by omega
        have b2 : ex PR (callF PR n) WB.bd [some (.int (o : Int)), some (.int x), some (.int (p : Int)), some (.int most), some (.ref A), some (.int (x - (t : Int))), some (.ref (A + 1)), v7, none] (hh.put A (.lst q)) = some (.nx, [some (.int (o : Int)), some (.int x), some (.int (p : Int)), some (.int most), some (.ref A), some (.int (x - ((t + 1 : Nat) : Int))), some (.ref (A + 1)), v7', none], hh.put A (.lst (nD (gone32 o p (t + 1))))) := by
          rw [eb, seq_nx b0, seq_nx b1]
          generalize nD (gone32 o p (t + 1)) = q2
          generalize x - ((t + 1 : Nat) : Int) = z at hz
          simp_arith [WB, F_l_gone, Z.S.hd, Z.S.tl, Z.S.from, Z.S.bd, hz]
        obtain ⟨k', rfl⟩ : ∃ k', k = k' + 1 := ⟨k - 1, by omega⟩
        obtain ⟨T, fl, env', e, r⟩ := g_loop n o p x most hm hp ho A hh lA ht k' (t + 1) lim v7' (by omega) (by omega) (fun j a b => by
          by_cases hj : j = t + 1
          · rw [hj]; exact hx
          · exact h3 j a (by omega)) (by omega)
        exact ⟨T, fl, env', by rw [whl_go e1 b2]; exact e, r⟩
    · have e1 : evT PR (callF PR n) (.cmp .lt (.bi .len (.cons (.var 4) (.nil))) (.var 3)) [some (.int (o : Int)), some (.int x), some (.int (p : Int)), some (.int most), some (.ref A), some (.int (x - (t : Int))), some (.ref (A + 1)), v7, none] (hh.put A (.lst (nD (gone32 o p t)))) = some (.ok false, hh.put A (.lst (nD (gone32 o p t)))) := by
        generalize nD (gone32 o p t) = q at nl
        simp_arith! [nl, hl]
      exact ⟨t, .nx, _, whl_end e1, fun j a b => h3 j a (by omega), h4, .inr ⟨rfl, by omega, _, _, rfl⟩⟩
theorem c_gone (n o p : Nat) (x most : Int) (h : Hm) (hm : 20 ≤ most ∧ most ≤ 5000) (hp : p ≤ 10) (ho : o ≤ 10) : ∃ g a t, callF PR (n + 1) "_law_gone" [.int (o : Int), .int x, .int (p : Int), .int most] h = some (.ok (.ref a), g) ∧ Gro h g ∧ a < g.next ∧ g.get a = some (.lst (nD (gone32 o p t))) ∧ 1 ≤ t ∧ (t : Int) ≤ most ∧ (∀ j : Nat, 1 ≤ j → j < t → x ≠ (j : Int)) ∧ (x = (t : Int) ∨ most ≤ ((gone32 o p t).length : Int)) := by
  rw [callF_eq fn_l_gone rfl]
  have sp : F_l_gone.body = .seq F_l_gone.body.hd (.seq (F_l_gone.body.from 1).hd (.seq (F_l_gone.body.from 2).hd (.seq (F_l_gone.body.from 3).hd (F_l_gone.body.from 4)))) := rfl
  rw [sp]
  have p0 : pre32 o = gone32 o p 0 := by unfold gone32; simp
  have e0 : ((List.range o).map fun (k : Nat) => D.int (2 * (k : Int))) ++ [D.int (2 * (o : Int))] = nD (gone32 o p 0) := by
    rw [← p0]
    unfold nD pre32
    rw [List.map_append, List.map_map]
    rfl
  have e2 : ((List.range (2 * p + 4)).map fun (k : Nat) => D.int (2 * (o : Int) + 1 + (k : Int))) = nD (turn32 o p) := by
    unfold nD turn32
    rw [List.map_map]
    apply List.map_congr_left
    intro k _
    show _ = D.int (((2 * o + 1 + k : Nat)) : Int)
    congr 1 <;> omega
  obtain ⟨h1, hh1⟩ : ∃ h1, ((h.new (.lst ((List.range o).map fun (k : Nat) => D.int (2 * (k : Int))))).new (.lst [D.int (2 * (o : Int))])).new (.lst (nD (gone32 o p 0))) = h1 := ⟨_, rfl⟩
  have n1 : h1.next = h.next + 3 := by rw [← hh1]; rfl
  have g1 : Gro h h1 := by rw [← hh1]; exact (Gro.new.trans .new).trans .new
  have a1 : h1.get (h.next + 2) = some (.lst (nD (gone32 o p 0))) := by rw [← hh1]; exact new_get_at ((h.new _).new _) _
  have t0 : ex PR (callF PR n) F_l_gone.body.hd (start F_l_gone.ns [.int (o : Int), .int x, .int (p : Int), .int most]) h = some (.nx, [some (.int (o : Int)), some (.int x), some (.int (p : Int)), some (.int most), some (.ref (h.next + 2)), none, none, none, none], h1) := by
    simp_arith [F_l_gone, Z.S.hd]
    rw [compL_map (fun (i : Nat) => D.int (i : Int)) (fun (k : Nat) => D.int (2 * (k : Int))) (by simp) (fun c _ => ⟨_, rfl, fun h' => ⟨rfl, fun _ => by simp_arith []⟩⟩) (by simp) (by simp) (by simp; omega)]
    have l0 : (List.range o).length = o := List.length_range ..
    simp_arith [e0, hh1]
  rw [seq_nx t0]
  have t1 : ex PR (callF PR n) (F_l_gone.body.from 1).hd [some (.int (o : Int)), some (.int x), some (.int (p : Int)), some (.int most), some (.ref (h.next + 2)), none, none, none, none] h1 = some (.nx, [some (.int (o : Int)), some (.int x), some (.int (p : Int)), some (.int most), some (.ref (h.next + 2)), some (.int x), none, none, none], h1) := by
    simp_arith [F_l_gone, Z.S.hd, Z.S.tl, Z.S.from]
  rw [seq_nx t1]
  have c4 : (2 * (p : Int) + 4).toNat = 2 * p + 4 := by omega
  obtain ⟨h2, hh2⟩ : ∃ h2, h1.new (.lst (nD (turn32 o p))) = h2 := ⟨_, rfl⟩
  have n2 : h2.next = h.next + 4 := by rw [← hh2, new_next, n1]
  have g2 : Gro h1 h2 := by rw [← hh2]; exact .new
  have b2 : h2.get (h.next + 3) = some (.lst (nD (turn32 o p))) := by rw [← hh2, ← n1]; exact new_get_at ..
  have t2 : ex PR (callF PR n) (F_l_gone.body.from 2).hd [some (.int (o : Int)), some (.int x), some (.int (p : Int)), some (.int most), some (.ref (h.next + 2)), some (.int x), none, none, none] h1 = some (.nx, [some (.int (o : Int)), some (.int x), some (.int (p : Int)), some (.int most), some (.ref (h.next + 2)), some (.int x), some (.ref (h.next + 3)), none, none], h2) := by
    simp_arith [F_l_gone, Z.S.hd, Z.S.tl, Z.S.from, c4]
    rw [compL_map (fun (i : Nat) => D.int (i : Int)) (fun (k : Nat) => D.int (2 * (o : Int) + 1 + (k : Int))) (by simp) (fun c _ => ⟨_, rfl, fun h' => ⟨rfl, fun _ => by simp_arith []⟩⟩) (by simp) (by simp) (by simp; omega)]
    simp_arith [e2, hh2, n1]
  rw [seq_nx t2]
  have a2 := g2.get a1 (by omega)
  obtain ⟨T, fl, env', e, hj, hT, r⟩ := g_loop n o p x most ⟨by omega, hm.2⟩ hp ho (h.next + 2) h2 (by omega) b2 most.toNat 0 1000000 none (by omega) (by omega) (fun j a b => by omega) (by omega)
  rw [put_self a2] at e
  have lf : PR.lf = 1000000 := rfl
  have hw : (F_l_gone.body.from 3).hd = .wh (.cmp .lt (.bi .len (.cons (.var 4) (.nil))) (.var 3)) WB.bd := rfl
  have x0 : x - ((0 : Nat) : Int) = x := by omega
  rw [x0] at e
  have t3 : ex PR (callF PR n) (F_l_gone.body.from 3).hd [some (.int (o : Int)), some (.int x), some (.int (p : Int)), some (.int most), some (.ref (h.next + 2)), some (.int x), some (.ref (h.next + 3)), none, none] h2 = some (fl, env', h2.put (h.next + 2) (.lst (nD (gone32 o p T)))) := by
    rw [hw, ex, lf]
    exact e
  have gr : Gro h (h2.put (h.next + 2) (.lst (nD (gone32 o p T)))) := by
    have g := g1.trans g2
    exact ⟨g.le, fun b hb => by rw [put_get_ne (by omega)]; exact g.at_ b hb⟩
  refine ⟨h2.put (h.next + 2) (.lst (nD (gone32 o p T))), h.next + 2, T, ?_, gr, by rw [put_next]; omega, by rw [put_get, if_pos rfl], ?_, hT, hj, ?_⟩
  · rcases r with ⟨rfl, _, _⟩ | ⟨rfl, _, v5, v7, rfl⟩
    · rw [ex_seq, t3]; rfl
    · rw [seq_nx t3]
      generalize nD (gone32 o p T) = q
      simp_arith [F_l_gone, Z.S.hd, Z.S.tl, Z.S.from]
  · rcases r with ⟨_, _, h1⟩ | ⟨_, h1, _⟩
    · exact h1
    · have := gone_len o p T
      rcases Nat.eq_zero_or_pos T with h0 | h0
      · subst h0; simp at this; omega
      · exact h0
  · rcases r with ⟨_, h1, _⟩ | ⟨_, h1, _⟩
    · exact .inl h1
    · exact .inr h1

def lay32 (R : Nat) (rs : List Rk) : Lay where
  on := fun i => decide (i = 2) || decide (i = 9)
  ad := fun i => if i = 2 then R + 2 else R + 5
  st := fun i => if i = 2 then R + 4 else R + 7
  pr := fun i => if i = 2 then R + 3 else R + 6
  pu := fun i => if i = 2 then 3 else 7
  cn := fun _ => 0
  rows := fun i => if i = 2 then [] else rs
  RM := R
  J := R + 8
  K := R + 9
  B := R + 10
theorem on32 {R : Nat} {rs : List Rk} {i : Int} (h : (lay32 R rs).on i = true) : i = 2 ∨ i = 9 := by
  have h : (decide (i = 2) || decide (i = 9)) = true := h
  simpa using h
theorem lay32_ok (R : Nat) (rs : List Rk) : (lay32 R rs).Ok := by
  refine ⟨fun i h => ?_, fun i j h k e => ?_, fun i j h k e => ?_, fun i j h k e => ?_, fun i j h k e => ?_, fun i j h k e => ?_, fun i h => ?_, ?_⟩
  · rcases on32 h with rfl | rfl <;> omega
  · rcases on32 h with rfl | rfl <;> rcases on32 k with rfl | rfl <;> first | rfl | (simp [lay32] at e)
  · rcases on32 h with rfl | rfl <;> rcases on32 k with rfl | rfl <;> first | rfl | (simp [lay32] at e)
  · rcases on32 h with rfl | rfl <;> rcases on32 k with rfl | rfl <;> simp [lay32] at e
  · rcases on32 h with rfl | rfl <;> rcases on32 k with rfl | rfl <;> simp [lay32] at e
  · rcases on32 h with rfl | rfl <;> rcases on32 k with rfl | rfl <;> simp [lay32] at e
  · rcases on32 h with rfl | rfl <;> simp [lay32]
  · simp [lay32]
theorem rows32_ok (o p : Nat) (x l : Int) (hx : U x) (hl : l < 18446744073709551616) : ∀ r ∈ rows32 o p x l, RowOk (rows32 o p x l).length r := by
  have ln : (rows32 o p x l).length = 2 * o + (1 + (2 * p + (4 + (en32 o p l).length))) := by
    unfold rows32
    simp only [List.length_append, jr_len, pr_len]
    rfl
  intro r hr
  rw [ln]
  unfold rows32 at hr
  rcases List.mem_append.mp hr with h | h
  · unfold jr at h
    obtain ⟨k, hk, h⟩ := List.mem_flatMap.mp h
    have := List.mem_range.mp hk
    simp at h
    rcases h with rfl | rfl
    · show 2 * k + 2 ≤ _; omega
    · trivial
  · rcases List.mem_append.mp h with h | h
    · rw [List.mem_singleton.mp h]; exact hx
    · rcases List.mem_append.mp h with h | h
      · unfold pr at h
        obtain ⟨k, hk, h⟩ := List.mem_flatMap.mp h
        simp at h
        rcases h with rfl | rfl
        · exact ⟨Int.ediv_nonneg hx.1 (by omega), Int.lt_of_le_of_lt (Int.ediv_le_self _ hx.1) hx.2⟩
        · trivial
      · rcases List.mem_append.mp h with h | h
        · unfold lp at h
          simp at h
          rcases h with rfl | rfl | rfl | rfl
          · exact Sm.U1
          · trivial
          · trivial
          · show 2 * o + 1 ≤ _; omega
        · have e : (en32 o p l).length = if l < 0 then 1 else 3 := by unfold en32; split <;> rfl
          unfold en32 at h
          by_cases h0 : l < 0
          · rw [if_pos h0] at h
            rw [List.mem_singleton.mp h]; trivial
          · rw [if_neg h0] at h e
            simp at h
            rcases h with rfl | rfl | rfl
            · exact ⟨by omega, hl⟩
            · show 2 * o + 2 * p + 8 ≤ _; rw [e]; omega
            · trivial
def s32 : S := ⟨fun _ => 10, fun _ _ => 0⟩
theorem good32 (R : Nat) (rs : List Rk) : Good (lay32 R rs) s32 :=
  ⟨fun i h => by show (0 : Int) ≤ 10; omega, by
    show ((List.range 16).map fun (k : Nat) => if (lay32 R rs).on (k : Int) = true then (10 : Int) else 0).sum < _
    have e : (List.range 16).map (fun (k : Nat) => if (lay32 R rs).on (k : Int) = true then (10 : Int) else 0) = [0, 0, 10, 0, 0, 0, 0, 0, 0, 10, 0, 0, 0, 0, 0, 0] := rfl
    rw [e]; decide, fun i p => ⟨Sm.U0, fun z => absurd rfl z⟩⟩
def base16 : List D := List.replicate 16 .non
theorem world32 (g : Hm) (R : Nat) (hR : g.next = R) (rs : List Rk) : ∃ W : Hm, W = ((((((((((g.new (.lst ((base16.set 2 (.ref (R + 2))).set 9 (.ref (R + 5))))).new (.lst [])).new (acO 10 3 0 (R + 3) (R + 4))).new (.lst [])).new (.dic [])).new (acO 10 7 0 (R + 6) (R + 7))).new (.lst (rs.map Rk.D))).new (.dic [])).new (.ins "Journal" [("rooms", .ref R), ("kept", .ref (R + 9))])).new (.lst [])) ∧ Jn (lay32 R rs) [] s32 W ∧ W.next = R + 10 ∧ Gro g W := by
  refine ⟨_, rfl, ⟨⟨?_, fun i h => ?_, fun i h => ?_, fun i h => ?_⟩, ?_, ?_, fun x hx => (by cases hx), ?_⟩, ?_, ?_⟩
  · have e : (lay32 R rs).rm = (base16.set 2 (.ref (R + 2))).set 9 (.ref (R + 5)) := rfl
    rw [e]
    show Hm.get _ R = _
    simp_arith [hR]
  · rcases on32 h with rfl | rfl
    · show Hm.get _ (R + 2) = some (acO 10 3 0 (R + 3) (R + 4)); simp_arith [hR]
    · show Hm.get _ (R + 5) = some (acO 10 7 0 (R + 6) (R + 7)); simp_arith [hR]
  · rcases on32 h with rfl | rfl
    · show Hm.get _ (R + 3) = some (.lst []); simp_arith [hR]
    · show Hm.get _ (R + 6) = some (.lst (rs.map Rk.D)); simp_arith [hR]
  · rcases on32 h with rfl | rfl
    · refine ⟨[], ?_, Rep.nil⟩; show Hm.get _ (R + 4) = some (.dic []); simp_arith [hR]
    · refine ⟨[], ?_, Rep.nil⟩; show Hm.get _ (R + 7) = some (.dic []); simp_arith [hR]
  · show Hm.get _ (R + 8) = some (.ins "Journal" [("rooms", .ref R), ("kept", .ref (R + 9))]); simp_arith [hR]
  · show Hm.get _ (R + 9) = some (.lst []); simp_arith [hR]
  · show R + 10 ≤ _; simp only [new_next]; omega
  · simp only [new_next]; omega
  · exact (((((((((Gro.new.trans .new).trans .new).trans .new).trans .new).trans .new).trans .new).trans .new).trans .new).trans .new)

theorem c_cell_at (n : Nat) (ns : List Int) (k : Nat) (h : Hm) (e : h.get 0 = some (.fz (ns.map D.int))) : callF PR (n + 1) "_law_cell_at" [.ref 0, .int (k : Int)] h = some (.ok (.int (cell ns k)), h) := by
  rw [callF_eq fn_l_cell_at rfl]
  by_cases hk : k < ns.length
  · simp_arith [F_l_cell_at, e, hk, at_script]
  · simp_arith [F_l_cell_at, e, hk, cell_out]
theorem c_cell_lit (n : Nat) (ns : List Int) (k : Nat) (h : Hm) (e : h.get 0 = some (.fz (ns.map D.int))) : callF PR (n + 1) "_law_cell_at" [.ref 0, .int (no_index (@OfNat.ofNat Int k _))] h = some (.ok (.int (cell ns k)), h) := c_cell_at n ns k h e

theorem cell_lit (n : Nat) (ns : List Int) (k : Nat) (h : Hm) (e : h.get 0 = some (.fz (ns.map D.int))) : callF PR (n + 1) "_law_cell_at" [.ref 0, .int (no_index (@OfNat.ofNat Int k _))] h = some (.ok (.int (cell ns k)), h) := c_cell_lit n ns k h e
abbrev LB : Z.S := F_law.body
theorem c_journal_init (n A R : Nat) (h : Hm) (lA : A < h.next) (hA : h.get A = some (.ins "Journal" [])) : callF PR (n + 1) "Journal.__init__" [.ref A, .ref R] h = some (.ok .non, (h.put A (.ins "Journal" [("rooms", .ref R), ("kept", .ref h.next)])).new (.lst [])) := by
  rw [callF_eq fn_Journal_init rfl]
  simp_arith! [F_Journal_init, hA, lA]
theorem law_head (ns : List Int) : ∃ (o p : Nat) (x given l : Int), o ≤ 5 ∧ p ≤ 3 ∧ U x ∧ 0 ≤ given ∧ given ≤ 1500 ∧ l < 18446744073709551616 ∧
    ∀ K : Z.S, ex PR (callF PR 37) (.seq LB.hd (.seq (LB.from 1).hd (.seq (LB.from 2).hd (.seq (LB.from 3).hd (.seq (LB.from 4).hd (.seq (LB.from 5).hd (.seq (LB.from 6).hd (.seq (LB.from 7).hd (.seq (LB.from 8).hd K))))))))) (start F_law.ns [.ref 0]) (h0 ns) = ex PR (callF PR 37) K [some (.ref 0), some (.int (o : Int)), some (.int (p : Int)), some (.int x), some (.int given), some (.int l), none, none, none, none, none, none] (h0 ns) := by
  have z0 : (h0 ns).get 0 = some (.fz (ns.map D.int)) := rfl
  have zc := fun k h e => cell_lit 36 ns k h e
  generalize h0 ns = h at z0 ⊢
  obtain ⟨o, ho⟩ : ∃ o : Nat, cell ns 0 % 6 = (o : Int) := ⟨(cell ns 0 % 6).toNat, by omega⟩
  obtain ⟨p, hp⟩ : ∃ p : Nat, cell ns 0 / 6 % 4 = (p : Int) := ⟨(cell ns 0 / 6 % 4).toNat, by omega⟩
  have t0 : ex PR (callF PR 37) LB.hd (start F_law.ns [.ref 0]) h = some (.nx, [some (.ref 0), some (.int (o : Int)), none, none, none, none, none, none, none, none, none, none], h) := by simp_arith [LB, F_law, Z.S.hd, Z.S.tl, Z.S.from, zc, z0, ho]
  have t1 : ex PR (callF PR 37) (LB.from 1).hd [some (.ref 0), some (.int (o : Int)), none, none, none, none, none, none, none, none, none, none] h = some (.nx, [some (.ref 0), some (.int (o : Int)), some (.int (p : Int)), none, none, none, none, none, none, none, none, none], h) := by simp_arith [LB, F_law, Z.S.hd, Z.S.tl, Z.S.from, zc, z0, hp]
  obtain ⟨x0, hx0⟩ : ∃ x0 : Int, cell ns 1 / 2 % 18446744073709551616 = x0 := ⟨_, rfl⟩
  have t2 : ex PR (callF PR 37) (LB.from 2).hd [some (.ref 0), some (.int (o : Int)), some (.int (p : Int)), none, none, none, none, none, none, none, none, none] h = some (.nx, [some (.ref 0), some (.int (o : Int)), some (.int (p : Int)), some (.int x0), none, none, none, none, none, none, none, none], h) := by simp_arith [LB, F_law, Z.S.hd, Z.S.tl, Z.S.from, zc, z0, hx0]
  obtain ⟨x, hx, t3⟩ : ∃ x : Int, U x ∧ ex PR (callF PR 37) (LB.from 3).hd [some (.ref 0), some (.int (o : Int)), some (.int (p : Int)), some (.int x0), none, none, none, none, none, none, none, none] h = some (.nx, [some (.ref 0), some (.int (o : Int)), some (.int (p : Int)), some (.int x), none, none, none, none, none, none, none, none], h) := by
    by_cases hc : cell ns 1 % 2 = 0
    · exact ⟨x0 % 12, ⟨by omega, by omega⟩, by simp_arith [LB, F_law, Z.S.hd, Z.S.tl, Z.S.from, zc, z0, hc]⟩
    · exact ⟨x0, ⟨by omega, by omega⟩, by simp_arith [LB, F_law, Z.S.hd, Z.S.tl, Z.S.from, zc, z0, hc]⟩
  obtain ⟨g0, hg0⟩ : ∃ g0 : Int, cell ns 2 / 8 % 300 = g0 := ⟨_, rfl⟩
  have t4 : ex PR (callF PR 37) (LB.from 4).hd [some (.ref 0), some (.int (o : Int)), some (.int (p : Int)), some (.int x), none, none, none, none, none, none, none, none] h = some (.nx, [some (.ref 0), some (.int (o : Int)), some (.int (p : Int)), some (.int x), some (.int g0), none, none, none, none, none, none, none], h) := by simp_arith [LB, F_law, Z.S.hd, Z.S.tl, Z.S.from, zc, z0, hg0]
  obtain ⟨given, hg1, hg2, t5⟩ : ∃ g : Int, 0 ≤ g ∧ g ≤ 1500 ∧ ex PR (callF PR 37) (LB.from 5).hd [some (.ref 0), some (.int (o : Int)), some (.int (p : Int)), some (.int x), some (.int g0), none, none, none, none, none, none, none] h = some (.nx, [some (.ref 0), some (.int (o : Int)), some (.int (p : Int)), some (.int x), some (.int g), none, none, none, none, none, none, none], h) := by
    by_cases hc : cell ns 2 % 8 = 3
    · exact ⟨300 + cell ns 2 / 8 % 1200, by omega, by omega, by simp_arith [LB, F_law, Z.S.hd, Z.S.tl, Z.S.from, zc, z0, hc]⟩
    · exact ⟨g0, by omega, by omega, by simp_arith [LB, F_law, Z.S.hd, Z.S.tl, Z.S.from, zc, z0, hc]⟩
  obtain ⟨l0, hl0⟩ : ∃ l0 : Int, cell ns 3 / 3 % 18446744073709551616 = l0 := ⟨_, rfl⟩
  have t6 : ex PR (callF PR 37) (LB.from 6).hd [some (.ref 0), some (.int (o : Int)), some (.int (p : Int)), some (.int x), some (.int given), none, none, none, none, none, none, none] h = some (.nx, [some (.ref 0), some (.int (o : Int)), some (.int (p : Int)), some (.int x), some (.int given), some (.int l0), none, none, none, none, none, none], h) := by simp_arith [LB, F_law, Z.S.hd, Z.S.tl, Z.S.from, zc, z0, hl0]
  obtain ⟨l1, hl1, t7⟩ : ∃ l : Int, l < 18446744073709551616 ∧ ex PR (callF PR 37) (LB.from 7).hd [some (.ref 0), some (.int (o : Int)), some (.int (p : Int)), some (.int x), some (.int given), some (.int l0), none, none, none, none, none, none] h = some (.nx, [some (.ref 0), some (.int (o : Int)), some (.int (p : Int)), some (.int x), some (.int given), some (.int l), none, none, none, none, none, none], h) := by
    by_cases hc : cell ns 3 % 3 = 0
    · exact ⟨-1, by omega, by simp_arith [LB, F_law, Z.S.hd, Z.S.tl, Z.S.from, zc, z0, hc]⟩
    · exact ⟨l0, by omega, by simp_arith [LB, F_law, Z.S.hd, Z.S.tl, Z.S.from, zc, z0, hc]⟩
  obtain ⟨l, hl, t8⟩ : ∃ l : Int, l < 18446744073709551616 ∧ ex PR (callF PR 37) (LB.from 8).hd [some (.ref 0), some (.int (o : Int)), some (.int (p : Int)), some (.int x), some (.int given), some (.int l1), none, none, none, none, none, none] h = some (.nx, [some (.ref 0), some (.int (o : Int)), some (.int (p : Int)), some (.int x), some (.int given), some (.int l), none, none, none, none, none, none], h) := by
    by_cases hc : cell ns 3 % 3 = 1
    · exact ⟨0, by omega, by simp_arith [LB, F_law, Z.S.hd, Z.S.tl, Z.S.from, zc, z0, hc]⟩
    · exact ⟨l1, hl1, by simp_arith [LB, F_law, Z.S.hd, Z.S.tl, Z.S.from, zc, z0, hc]⟩
  refine ⟨o, p, x, given, l, by omega, by omega, hx, hg1, hg2, hl, fun K => ?_⟩
  rw [seq_nx t0, seq_nx t1, seq_nx t2, seq_nx t3, seq_nx t4, seq_nx t5, seq_nx t6, seq_nx t7, seq_nx t8]

def fin32 (o p t : Nat) (l given : Int) : List Nat := if ((due32 o p t l).length : Int) ≤ given then due32 o p t l else (due32 o p t l).take given.toNat
def en3 (o p t : Nat) (l given : Int) : En := if ((due32 o p t l).length : Int) ≤ given then (if l = 0 then .fail else .well) else .dry
theorem due_len (o p t : Nat) (l : Int) : (due32 o p t l).length ≤ (gone32 o p t).length + 3 := by
  unfold due32
  rw [List.length_append]
  split
  · simp
  · split <;> simp
theorem law_due (o p t : Nat) (x given l : Int) (ar ag : Nat) (h : Hm) (hg : 0 ≤ given ∧ given ≤ 1500) (gl : (gone32 o p t).length ≤ 200000) (la : ag < h.next) (ea : h.get ag = some (.lst (nD (gone32 o p t)))) :
    ∃ (a : Nat) (g : Hm), (∀ K : Z.S, ex PR (callF PR 37) (.seq (LB.from 11).hd (.seq (LB.from 12).hd (.seq (LB.from 13).hd (.seq (LB.from 14).hd (.seq (LB.from 15).hd K))))) [some (.ref 0), some (.int (o : Int)), some (.int (p : Int)), some (.int x), some (.int given), some (.int l), some (.ref ar), some (.ref ag), none, none, none, none] h = ex PR (callF PR 37) K [some (.ref 0), some (.int (o : Int)), some (.int (p : Int)), some (.int x), some (.int given), some (.int l), some (.ref ar), some (.ref a), some (.int (2 * (o : Int) + 2 * (p : Int) + 5)), some (.str (Str.ofString (en3 o p t l given).w)), none, none] g) ∧ Gro h g ∧ a < g.next ∧ g.get a = some (.lst (nD (fin32 o p t l given))) := by
  have t11 : ex PR (callF PR 37) (LB.from 11).hd [some (.ref 0), some (.int (o : Int)), some (.int (p : Int)), some (.int x), some (.int given), some (.int l), some (.ref ar), some (.ref ag), none, none, none, none] h = some (.nx, [some (.ref 0), some (.int (o : Int)), some (.int (p : Int)), some (.int x), some (.int given), some (.int l), some (.ref ar), some (.ref ag), some (.int (2 * (o : Int) + 2 * (p : Int) + 5)), none, none, none], h) := by simp_arith [LB, F_law, Z.S.hd, Z.S.tl, Z.S.from]
  have nl := nD_len (gone32 o p t)
  have na : ag ≠ h.next := by omega
  have e6 : 2 * (o : Int) + 2 * (p : Int) + 5 + 1 = 2 * (o : Int) + 2 * (p : Int) + 6 := by omega
  have e7 : 2 * (o : Int) + 2 * (p : Int) + 5 + 2 = 2 * (o : Int) + 2 * (p : Int) + 7 := by omega
  obtain ⟨a1, g1, t12, gr1, la1, ea1⟩ : ∃ a1 g1, ex PR (callF PR 37) (LB.from 12).hd [some (.ref 0), some (.int (o : Int)), some (.int (p : Int)), some (.int x), some (.int given), some (.int l), some (.ref ar), some (.ref ag), some (.int (2 * (o : Int) + 2 * (p : Int) + 5)), none, none, none] h = some (.nx, [some (.ref 0), some (.int (o : Int)), some (.int (p : Int)), some (.int x), some (.int given), some (.int l), some (.ref ar), some (.ref a1), some (.int (2 * (o : Int) + 2 * (p : Int) + 5)), none, none, none], g1) ∧ Gro h g1 ∧ a1 < g1.next ∧ g1.get a1 = some (.lst (nD (due32 o p t l))) := by
    by_cases hl : l < 0
    · have e : nD (due32 o p t l) = nD (gone32 o p t) ++ [.int (2 * (o : Int) + 2 * (p : Int) + 5)] := by unfold due32; rw [if_pos hl, nD_app]; rfl
      rw [e]
      generalize nD (gone32 o p t) = q at ea nl
      refine ⟨h.next + 1, (h.new (.lst [.int (2 * (o : Int) + 2 * (p : Int) + 5)])).new (.lst (q ++ [.int (2 * (o : Int) + 2 * (p : Int) + 5)])), ?_, Gro.new.trans .new, Nat.lt_succ_self _, new_get_at (h.new _) _⟩
      have l2 : q.length < 900000 := by omega
      simp_arith! [LB, F_law, Z.S.hd, Z.S.tl, Z.S.from, hl, ea, l2, na]
    · by_cases h0 : l = 0
      · have e : nD (due32 o p t l) = nD (gone32 o p t) ++ [.int (2 * (o : Int) + 2 * (p : Int) + 5), .int (2 * (o : Int) + 2 * (p : Int) + 6)] ++ [.int (2 * (o : Int) + 2 * (p : Int) + 7)] := by unfold due32; rw [if_neg hl, if_pos h0, nD_app, nD_app, ← List.append_assoc]; rfl
        rw [e]
        generalize nD (gone32 o p t) = q at ea nl
        have l2 : q.length < 900000 := by omega
        obtain ⟨q1, hq1⟩ : ∃ q1, q ++ [D.int (2 * (o : Int) + 2 * (p : Int) + 5), .int (2 * (o : Int) + 2 * (p : Int) + 6)] = q1 := ⟨_, rfl⟩
        have l3 : q1.length < 900000 := by rw [← hq1, List.length_append]; simp; omega
        rw [hq1]
        subst h0
        refine ⟨h.next + 3, (((h.new (.lst [.int (2 * (o : Int) + 2 * (p : Int) + 5), .int (2 * (o : Int) + 2 * (p : Int) + 6)])).new (.lst q1)).new (.lst [.int (2 * (o : Int) + 2 * (p : Int) + 7)])).new (.lst (q1 ++ [.int (2 * (o : Int) + 2 * (p : Int) + 7)])), ?_, ((Gro.new.trans .new).trans .new).trans .new, Nat.lt_succ_self _, new_get_at (((h.new _).new _).new _) _⟩
        simp_arith! [LB, F_law, Z.S.hd, Z.S.tl, Z.S.from, ea, l2, l3, hq1, na, e6, e7]
      · have e : nD (due32 o p t l) = nD (gone32 o p t) ++ [.int (2 * (o : Int) + 2 * (p : Int) + 5), .int (2 * (o : Int) + 2 * (p : Int) + 6)] := by unfold due32; rw [if_neg hl, if_neg h0, List.append_nil, nD_app]; rfl
        rw [e]
        generalize nD (gone32 o p t) = q at ea nl
        have l2 : q.length < 900000 := by omega
        refine ⟨h.next + 1, (h.new (.lst [.int (2 * (o : Int) + 2 * (p : Int) + 5), .int (2 * (o : Int) + 2 * (p : Int) + 6)])).new (.lst (q ++ [.int (2 * (o : Int) + 2 * (p : Int) + 5), .int (2 * (o : Int) + 2 * (p : Int) + 6)])), ?_, Gro.new.trans .new, Nat.lt_succ_self _, new_get_at (h.new _) _⟩
        simp_arith! [LB, F_law, Z.S.hd, Z.S.tl, Z.S.from, hl, h0, ea, l2, na, e6]
  have t13 : ex PR (callF PR 37) (LB.from 13).hd [some (.ref 0), some (.int (o : Int)), some (.int (p : Int)), some (.int x), some (.int given), some (.int l), some (.ref ar), some (.ref a1), some (.int (2 * (o : Int) + 2 * (p : Int) + 5)), none, none, none] g1 = some (.nx, [some (.ref 0), some (.int (o : Int)), some (.int (p : Int)), some (.int x), some (.int given), some (.int l), some (.ref ar), some (.ref a1), some (.int (2 * (o : Int) + 2 * (p : Int) + 5)), some (.str (Str.ofString "well")), none, none], g1) := by simp_arith [LB, F_law, Z.S.hd, Z.S.tl, Z.S.from]
  have t14 : ex PR (callF PR 37) (LB.from 14).hd [some (.ref 0), some (.int (o : Int)), some (.int (p : Int)), some (.int x), some (.int given), some (.int l), some (.ref ar), some (.ref a1), some (.int (2 * (o : Int) + 2 * (p : Int) + 5)), some (.str (Str.ofString "well")), none, none] g1 = some (.nx, [some (.ref 0), some (.int (o : Int)), some (.int (p : Int)), some (.int x), some (.int given), some (.int l), some (.ref ar), some (.ref a1), some (.int (2 * (o : Int) + 2 * (p : Int) + 5)), some (.str (if l = 0 then Str.ofString "fail" else Str.ofString "well")), none, none], g1) := by
    by_cases h0 : l = 0
    · rw [if_pos h0]; simp_arith [LB, F_law, Z.S.hd, Z.S.tl, Z.S.from, h0]
    · rw [if_neg h0]; simp_arith [LB, F_law, Z.S.hd, Z.S.tl, Z.S.from, h0]
  have dl := due_len o p t l
  have nl2 := nD_len (due32 o p t l)
  have l4 : (nD (due32 o p t l)).length < 900000 := by omega
  by_cases hd : ((due32 o p t l).length : Int) ≤ given
  · refine ⟨a1, g1, fun K => ?_, gr1, la1, by unfold fin32; rw [if_pos hd]; exact ea1⟩
    have t15 : ex PR (callF PR 37) (LB.from 15).hd [some (.ref 0), some (.int (o : Int)), some (.int (p : Int)), some (.int x), some (.int given), some (.int l), some (.ref ar), some (.ref a1), some (.int (2 * (o : Int) + 2 * (p : Int) + 5)), some (.str (if l = 0 then Str.ofString "fail" else Str.ofString "well")), none, none] g1 = some (.nx, [some (.ref 0), some (.int (o : Int)), some (.int (p : Int)), some (.int x), some (.int given), some (.int l), some (.ref ar), some (.ref a1), some (.int (2 * (o : Int) + 2 * (p : Int) + 5)), some (.str (if l = 0 then Str.ofString "fail" else Str.ofString "well")), none, none], g1) := by
      have hd2 : ¬ given < ((due32 o p t l).length : Int) := by omega
      generalize (if l = 0 then Str.ofString "fail" else Str.ofString "well") = z
      generalize nD (due32 o p t l) = q at ea1 nl2 l4
      simp_arith! [LB, F_law, Z.S.hd, Z.S.tl, Z.S.from, ea1, nl2, hd2]
    rw [seq_nx t11, seq_nx t12, seq_nx t13, seq_nx t14, seq_nx t15]
    have e : (Str.ofString (en3 o p t l given).w) = if l = 0 then Str.ofString "fail" else Str.ofString "well" := by unfold en3; rw [if_pos hd]; split <;> rfl
    rw [e]
  · obtain ⟨k, hk⟩ := Int.eq_ofNat_of_zero_le hg.1
    have ct : cut (nD (due32 o p t l)) none (some given) = nD (fin32 o p t l given) := by
      rw [hk]
      show cut _ none (some (k : Int)) = _
      rw [cut_to]
      unfold fin32
      rw [if_neg (by rw [hk] at hd; exact hd)]
      show _ = nD (List.take k _)
      unfold nD
      rw [List.map_take]
    refine ⟨g1.next, g1.new (.lst (nD (fin32 o p t l given))), fun K => ?_, gr1.trans .new, Nat.lt_succ_self _, new_get_at ..⟩
    have t15 : ex PR (callF PR 37) (LB.from 15).hd [some (.ref 0), some (.int (o : Int)), some (.int (p : Int)), some (.int x), some (.int given), some (.int l), some (.ref ar), some (.ref a1), some (.int (2 * (o : Int) + 2 * (p : Int) + 5)), some (.str (if l = 0 then Str.ofString "fail" else Str.ofString "well")), none, none] g1 = some (.nx, [some (.ref 0), some (.int (o : Int)), some (.int (p : Int)), some (.int x), some (.int given), some (.int l), some (.ref ar), some (.ref g1.next), some (.int (2 * (o : Int) + 2 * (p : Int) + 5)), some (.str (Str.ofString "dry")), none, none], g1.new (.lst (nD (fin32 o p t l given)))) := by
      have hd2 : given < ((due32 o p t l).length : Int) := by omega
      generalize (if l = 0 then Str.ofString "fail" else Str.ofString "well") = z
      generalize nD (fin32 o p t l given) = q3 at ct
      generalize nD (due32 o p t l) = q at ea1 nl2 l4 ct
      simp_arith! [LB, F_law, Z.S.hd, Z.S.tl, Z.S.from, ea1, nl2, hd2, ct]
    rw [seq_nx t11, seq_nx t12, seq_nx t13, seq_nx t14, seq_nx t15]
    have e : (Str.ofString (en3 o p t l given).w) = Str.ofString "dry" := by unfold en3; rw [if_neg hd]; rfl
    rw [e]

theorem tree32 (R : Nat) (o p t : Nat) (x given l : Int) (hg : 0 ≤ given) (h1 : 1 ≤ t) (hj : ∀ j : Nat, 1 ≤ j → j < t → (x - (j : Int)) % 18446744073709551616 ≠ 0) (hx : (x - (t : Int)) % 18446744073709551616 = 0 ∨ given < ((gone32 o p t).length : Int)) (r : MS) (hr : goP (lay32 R (rows32 o p x l)) 8 (top1 9 2 0 5 given) s32 [] = r) :
    r.used = ((fin32 o p t l given).length : Int) ∧ r.steps = (fin32 o p t l given).map Sp.at_ ∧ r.en = en3 o p t l given ∧ r.ans = 0 := by
  obtain ⟨m, em, hm⟩ := way32 (go := goP (lay32 R (rows32 o p x l)) 7) (L := lay32 R (rows32 o p x l)) (f := top1 9 2 0 5 given) (s := s32) (js := []) (o := o) (p := p) (x := x) (l := l) hg rfl rfl t h1 hj hx
  have fe : first (top1 9 2 0 5 given) s32 [] = MS.start s32 [] .run := by unfold first; rw [if_neg]; rintro ⟨_, z⟩; exact absurd z (by show ¬ (0 : Int) < 0; omega)
  have e : r.used = m.used ∧ r.steps = m.steps ∧ r.en = m.en ∧ r.ans = m.ans := by
    rw [← hr, goP_eq, fe, em]
    split <;> exact ⟨rfl, rfl, rfl, rfl⟩
  obtain ⟨e1, e2, e3, e4⟩ := e
  rw [e1, e2, e3, e4]
  have gg : (top1 9 2 0 5 given).given = given := rfl
  rw [gg] at hm
  unfold fin32 en3
  by_cases hd : ((due32 o p t l).length : Int) ≤ given
  · rw [if_pos hd] at hm ⊢
    rw [if_pos hd]
    exact hm
  · rw [if_neg hd] at hm ⊢
    rw [if_neg hd]
    obtain ⟨m1, m2, m3, m4⟩ := hm
    exact ⟨by rw [m1, List.length_take]; omega, m2, m3, m4⟩
theorem law_ok (ns : List Int) (hl : ns.length ≤ 63) : ∃ h', callF PR (37 + 1) "law" [.ref 0] (h0 ns) = some (.ok (.bl true), h') := by
  rw [callF_eq fn_law rfl]
  have sp : F_law.body = .seq LB.hd (.seq (LB.from 1).hd (.seq (LB.from 2).hd (.seq (LB.from 3).hd (.seq (LB.from 4).hd (.seq (LB.from 5).hd (.seq (LB.from 6).hd (.seq (LB.from 7).hd (.seq (LB.from 8).hd (LB.from 9))))))))) := rfl
  have sp2 : LB.from 9 = .seq (LB.from 9).hd (.seq (LB.from 10).hd (.seq (LB.from 11).hd (.seq (LB.from 12).hd (.seq (LB.from 13).hd (.seq (LB.from 14).hd (.seq (LB.from 15).hd (LB.from 16))))))) := rfl
  have sp3 : LB.from 16 = .seq (LB.from 16).hd (.seq (LB.from 17).hd (.seq (LB.from 18).hd (.seq (LB.from 19).hd (LB.from 20)))) := rfl
  obtain ⟨o, p, x, given, l, ho, hp, hx, hg1, hg2, hl64, head⟩ := law_head ns
  rw [sp, head, sp2]
  obtain ⟨g1, ar, e1, gr1, l1, q1⟩ := c_program 36 o p x l (h0 ns) (by omega) (by omega)
  have t9 : ex PR (callF PR 37) (LB.from 9).hd [some (.ref 0), some (.int (o : Int)), some (.int (p : Int)), some (.int x), some (.int given), some (.int l), none, none, none, none, none, none] (h0 ns) = some (.nx, [some (.ref 0), some (.int (o : Int)), some (.int (p : Int)), some (.int x), some (.int given), some (.int l), some (.ref ar), none, none, none, none, none], g1) := by simp_arith [LB, F_law, Z.S.hd, Z.S.tl, Z.S.from, e1]
  rw [seq_nx t9]
  obtain ⟨g2, ag, t, e2, gr2, l2, q2, ht1, ht2, hj, hx2⟩ := c_gone 36 o p x (given + 20) g1 ⟨by omega, by omega⟩ (by omega) (by omega)
  have t10 : ex PR (callF PR 37) (LB.from 10).hd [some (.ref 0), some (.int (o : Int)), some (.int (p : Int)), some (.int x), some (.int given), some (.int l), some (.ref ar), none, none, none, none, none] g1 = some (.nx, [some (.ref 0), some (.int (o : Int)), some (.int (p : Int)), some (.int x), some (.int given), some (.int l), some (.ref ar), some (.ref ag), none, none, none, none], g2) := by simp_arith [LB, F_law, Z.S.hd, Z.S.tl, Z.S.from, e2]
  rw [seq_nx t10]
  have gl := gone_len o p t
  have gl2 : t * (2 * p + 4) ≤ 1520 * 24 := Nat.mul_le_mul (by omega) (by omega)
  obtain ⟨a3, g3, e3, gr3, l3, q3⟩ := law_due o p t x given l ar ag g2 ⟨hg1, hg2⟩ (by omega) l2 q2
  rw [e3, sp3]
  obtain ⟨z3, hz3⟩ : ∃ z3, Str.ofString (en3 o p t l given).w = z3 := ⟨_, rfl⟩
  rw [hz3]
  have q1' := gr3.get (gr2.get q1 l1) (by have := gr2.le; omega)
  have l1' : ar < g3.next := by have := gr2.le; have := gr3.le; omega
  obtain ⟨g4, hg4⟩ : ∃ g4, g3.new (.lst [.non]) = g4 := ⟨_, rfl⟩
  have n4 : g4.next = g3.next + 1 := by rw [← hg4]; rfl
  obtain ⟨b16, hb16⟩ : ∃ b, base16 = b := ⟨_, rfl⟩
  have bl : b16.length = 16 := by rw [← hb16]; rfl
  have bb : (List.replicate 16 [D.non]).flatten = b16 := by rw [← hb16]; rfl
  have t16 : ex PR (callF PR 37) (LB.from 16).hd [some (.ref 0), some (.int (o : Int)), some (.int (p : Int)), some (.int x), some (.int given), some (.int l), some (.ref ar), some (.ref a3), some (.int (2 * (o : Int) + 2 * (p : Int) + 5)), some (.str z3), none, none] g3 = some (.nx, [some (.ref 0), some (.int (o : Int)), some (.int (p : Int)), some (.int x), some (.int given), some (.int l), some (.ref ar), some (.ref a3), some (.int (2 * (o : Int) + 2 * (p : Int) + 5)), some (.str z3), some (.ref g4.next), none], g4.new (.lst b16)) := by
    have bb2 : binD .mul (.ref g3.next) (.int 16) g4 = some (.ok (.ref g4.next), g4.new (.lst b16)) := by
      rw [rep_ref, ← hg4, new_get_at, repO_l (by simp), show (16 : Int).toNat = 16 from rfl, bb]
    simp_arith [LB, F_law, Z.S.hd, Z.S.tl, Z.S.from, bb2, hg4, -rep_ref]
  rw [seq_nx t16]
  obtain ⟨W, hW, J, nW, grW⟩ := world32 g4 g4.next rfl (rows32 o p x l)
  rw [hb16] at hW
  have ar4 : g4.get ar = some (.lst ((rows32 o p x l).map Rk.D)) := by rw [← hg4, new_get_lt l1']; exact q1'
  have lar : ar < g4.next := by omega
  have a34 : g4.get a3 = some (.lst (nD (fin32 o p t l given))) := by rw [← hg4, new_get_lt l3]; exact q3
  have la3 : a3 < g4.next := by omega
  obtain ⟨rsD, hrs⟩ : ∃ rsD, (rows32 o p x l).map Rk.D = rsD := ⟨_, rfl⟩
  rw [hrs] at hW ar4
  have i17 := c_acc_init 36 (g4.next + 2) (g4.next + 1) 10 3 [] (((g4.new (.lst b16)).new (.lst [])).new (.ins "Account" [])) (by simp only [new_next]; omega) (new_get_at ..) (by rw [new_get_lt (by simp only [new_next]; omega)]; exact new_get_at ..) (by omega)
  rw [show (((g4.new (.lst b16)).new (.lst [])).new (.ins "Account" [])).next = g4.next + 3 from rfl, show ∀ o, (((g4.new (.lst b16)).new (.lst [])).new (.ins "Account" [])).put (g4.next + 2) o = ((g4.new (.lst b16)).new (.lst [])).new o from fun o => new_put] at i17
  obtain ⟨W1, hW1⟩ : ∃ W1, ((((g4.new (.lst (b16.set 2 (.ref (g4.next + 2))))).new (.lst [])).new (acO 10 3 0 (g4.next + 3) (g4.next + 4))).new (.lst [])).new (.dic []) = W1 := ⟨_, rfl⟩
  have nW1 : W1.next = g4.next + 5 := by rw [← hW1]; rfl
  have rW1 : W1.get g4.next = some (.lst (b16.set 2 (.ref (g4.next + 2)))) := by rw [← hW1]; simp_arith []
  have arW1 : W1.get ar = some (.lst rsD) := by
    rw [← hW1]; simp_arith! [ar4]
  have t17 : ex PR (callF PR 37) (LB.from 17).hd [some (.ref 0), some (.int (o : Int)), some (.int (p : Int)), some (.int x), some (.int given), some (.int l), some (.ref ar), some (.ref a3), some (.int (2 * (o : Int) + 2 * (p : Int) + 5)), some (.str z3), some (.ref g4.next), none] (g4.new (.lst b16)) = some (.nx, [some (.ref 0), some (.int (o : Int)), some (.int (p : Int)), some (.int x), some (.int given), some (.int l), some (.ref ar), some (.ref a3), some (.int (2 * (o : Int) + 2 * (p : Int) + 5)), some (.str z3), some (.ref g4.next), none], W1) := by
    rw [← hW1]
    have ix : ixD 16 2 = some 2 := rfl
    generalize hac : acO 10 3 0 (g4.next + 3) (g4.next + 4) = ac at i17 ⊢
    have i17 : callF PR 37 "Account.__init__" [.ref (g4.next + 2), .int 10, .int 3, .ref (g4.next + 1)] (((g4.new (.lst b16)).new (.lst [])).new (.ins "Account" [])) = _ := i17
    simp_arith! [LB, F_law, Z.S.hd, Z.S.tl, Z.S.from, i17, bl, ix]
  rw [seq_nx t17]
  have i18 := c_acc_init 36 W1.next ar 10 7 rsD (W1.new (.ins "Account" [])) (Nat.lt_succ_self _) (new_get_at ..) (by rw [new_get_lt (by omega)]; exact arW1) (by omega)
  rw [new_put] at i18
  obtain ⟨W2, hW2⟩ : ∃ W2, (((W1.put g4.next (.lst ((b16.set 2 (.ref (g4.next + 2))).set 9 (.ref W1.next)))).new (acO 10 7 0 (W1.next + 1) (W1.next + 2))).new (.lst rsD)).new (.dic []) = W2 := ⟨_, rfl⟩
  have t18 : ex PR (callF PR 37) (LB.from 18).hd [some (.ref 0), some (.int (o : Int)), some (.int (p : Int)), some (.int x), some (.int given), some (.int l), some (.ref ar), some (.ref a3), some (.int (2 * (o : Int) + 2 * (p : Int) + 5)), some (.str z3), some (.ref g4.next), none] W1 = some (.nx, [some (.ref 0), some (.int (o : Int)), some (.int (p : Int)), some (.int x), some (.int given), some (.int l), some (.ref ar), some (.ref a3), some (.int (2 * (o : Int) + 2 * (p : Int) + 5)), some (.str z3), some (.ref g4.next), none], W2) := by
    rw [← hW2]
    have i18 : callF PR 37 "Account.__init__" [.ref W1.next, .int 10, .int 7, .ref ar] (W1.new (.ins "Account" [])) = _ := i18
    have bl2 : (b16.set 2 (D.ref (g4.next + 2))).length = 16 := by rw [List.length_set, bl]
    have lR : g4.next < W1.next := by omega
    have hn : (W1.new (.ins "Account" [])).next = W1.next + 1 := rfl
    rw [hn] at i18
    generalize hac : acO 10 7 0 (W1.next + 1) (W1.next + 1 + 1) = ac at i18
    have ix : ixD 16 9 = some 9 := rfl
    generalize b16.set 2 (D.ref (g4.next + 2)) = bq at rW1 bl2 ⊢
    simp_arith! [LB, F_law, Z.S.hd, Z.S.tl, Z.S.from, i18, rW1, bl2, lR, ix]
  rw [seq_nx t18]
  have e2n : W2.next = g4.next + 8 := by rw [← hW2]; simp only [new_next, put_next]; omega
  have hWW : (W2.new (.ins "Journal" [("rooms", .ref g4.next), ("kept", .ref (W2.next + 1))])).new (.lst []) = W := by
    rw [hW, e2n, ← hW2, nW1, ← hW1, new_put_lt (by simp only [new_next]; omega), new_put_lt (by simp only [new_next]; omega), new_put_lt (by simp only [new_next]; omega), new_put_lt (by simp only [new_next]; omega), new_put]
  have jl : (([] : List (Nat × Dd)).map (·.2)) = [] := rfl
  obtain ⟨L, hL⟩ : ∃ L, lay32 g4.next (rows32 o p x l) = L := ⟨_, rfl⟩
  have LO : L.Ok := by rw [← hL]; exact lay32_ok _ _
  have LR : L.Rw := by
    rw [← hL]
    intro i hi r hr
    rcases on32 hi with rfl | rfl
    · exact absurd hr (by show ¬ r ∈ ([] : List Rk); simp)
    · exact rows32_ok o p x l hx hl64 r hr
  have FO : FmOk L (top1 9 2 0 5 given) s32 := by
    rw [← hL]
    exact ⟨rfl, rfl, ⟨by show (0 : Int) ≤ 2; omega, by show (2 : Int) < _; omega⟩, Sm.U0, ⟨by show (0 : Int) ≤ 5; omega, by show (5 : Int) < _; omega⟩, hg1, fun _ z => absurd z (by show ¬ (0 : Int) < 0; omega)⟩
  have GD : Good L s32 := by rw [← hL]; exact good32 _ _
  have SB : Sml 0 s32 := fun i => ⟨[], Rep.nil, Nat.le_refl _⟩
  have BD : Bd 0 (top1 9 2 0 5 given) (([] : List (Nat × Dd)).map (·.2)) := ⟨by show ((0 : Nat) : Int) + given + (9 - 1) ≤ 800000; omega, by show ((0 : Nat) : Int) + given + (9 - 1) ≤ 800000; omega, by show given ≤ 100000; omega, by show (1 : Int) ≤ 8; omega⟩
  have eR : L.RM = g4.next := by rw [← hL]; rfl
  have eJ : L.J = g4.next + 8 := by rw [← hL]; rfl
  have T32 := tree32 g4.next o p t x given l hg1 ht1 (fun j a b => by have := hj j a b; have := hx.1; have := hx.2; omega) (by
    rcases hx2 with h | h
    · left; rw [h]; simp
    · right; omega) _ rfl
  rw [hL] at T32 J
  obtain ⟨g5, aa, as', e5, rs5, J5, ja5, le5, fr5⟩ := c_enter 0 0 9 2 0 5 given J LO LR FO GD SB BD
  rw [jl] at e5 rs5 J5 ja5
  generalize goP L 8 (top1 9 2 0 5 given) s32 [] = r at T32 e5 rs5
  obtain ⟨r1, r2, r3, r4⟩ := T32
  rw [eR, eJ] at e5
  have e5 : callF PR 37 "enter" [.ref g4.next, .ref (g4.next + 8), .int 2, .int 9, .int 0, .int 5, .int given] W = some (.ok (treeD (top1 9 2 0 5 given) r.en r.ans r.used aa), g5) := e5
  rw [r1, r3, r4] at e5 rs5
  rw [r2] at rs5
  have a3W := grW.get a34 la3
  have a35 : g5.get a3 = some (.lst (nD (fin32 o p t l given))) := by
    rw [fr5 a3 (by omega) (by
      rintro ⟨i, hi, z⟩
      rw [← hL] at hi z
      rcases on32 hi with rfl | rfl
      · rcases z with z | z
        · have z : a3 = g4.next + 2 := z; omega
        · have z : a3 = g4.next + 4 := z; omega
      · rcases z with z | z
        · have z : a3 = g4.next + 5 := z; omega
        · have z : a3 = g4.next + 7 := z; omega) (by rw [← hL]; show a3 ≠ g4.next + 9; omega)]
    exact a3W
  obtain ⟨ds, dq, dm⟩ : ∃ ds, g5.get aa = some (.lst ds) ∧ ds = nD (fin32 o p t l given) := by
    cases rs5 with
    | sub h1 h2 h3 h4 => exact ⟨_, h3, RSps.ats h4⟩
  rw [dm] at dq
  have fl : (fin32 o p t l given).length < 1000000 := by
    have := due_len o p t l
    unfold fin32
    split
    · omega
    · rw [List.length_take]; omega
  have nf := nD_len (fin32 o p t l given)
  have same : Same g5 37 (treeD (top1 9 2 0 5 given) (en3 o p t l given) 0 ((fin32 o p t l given).length : Int) aa) (.tup [.str (Str.ofString "call"), .int 9, .int 9, .int 2, .int 0, .int 5, .int given, .str z3, .int 0, .int ((fin32 o p t l given).length : Int), .ref a3]) := by
    unfold treeD
    rw [hz3]
    refine .tup rfl (by show (11 : Nat) < _; omega) fun i u v hu hv => ?_
    have lf : Same g5 36 (.ref aa) (.ref a3) := .lst dq a35 rfl (by rw [nf]; exact fl) fun i u v hu hv => by
      rw [hu] at hv
      cases hv
      unfold nD at hu
      rw [List.getElem?_map] at hu
      obtain ⟨k, _, rfl⟩ := Option.map_eq_some_iff.mp hu
      exact .int _
    match i, hu, hv with
    | 0, hu, hv => cases hu; cases hv; exact .str _
    | 1, hu, hv => cases hu; cases hv; exact .int _
    | 2, hu, hv => cases hu; cases hv; exact .int _
    | 3, hu, hv => cases hu; cases hv; exact .int _
    | 4, hu, hv => cases hu; cases hv; exact .int _
    | 5, hu, hv => cases hu; cases hv; exact .int _
    | 6, hu, hv => cases hu; cases hv; exact .int _
    | 7, hu, hv => cases hu; cases hv; exact .str _
    | 8, hu, hv => cases hu; cases hv; exact .int _
    | 9, hu, hv => cases hu; cases hv; exact .int _
    | 10, hu, hv => cases hu; cases hv; exact lf
    | i + 11, hu, hv => cases hu
  have al := c_same 37 _ _ same
  obtain ⟨found, hfo⟩ : ∃ fo, treeD (top1 9 2 0 5 given) (en3 o p t l given) 0 ((fin32 o p t l given).length : Int) aa = fo := ⟨_, rfl⟩
  rw [hfo] at e5 al
  have i19 := c_journal_init 36 W2.next g4.next (W2.new (.ins "Journal" [])) (Nat.lt_succ_self _) (new_get_at ..)
  rw [new_put, show (W2.new (.ins "Journal" [])).next = W2.next + 1 from rfl, hWW, e2n] at i19
  have t19 : ex PR (callF PR 37) (LB.from 19).hd [some (.ref 0), some (.int (o : Int)), some (.int (p : Int)), some (.int x), some (.int given), some (.int l), some (.ref ar), some (.ref a3), some (.int (2 * (o : Int) + 2 * (p : Int) + 5)), some (.str z3), some (.ref g4.next), none] W2 = some (.nx, [some (.ref 0), some (.int (o : Int)), some (.int (p : Int)), some (.int x), some (.int given), some (.int l), some (.ref ar), some (.ref a3), some (.int (2 * (o : Int) + 2 * (p : Int) + 5)), some (.str z3), some (.ref g4.next), some found], g5) := by
    have i19 : callF PR 37 "Journal.__init__" [.ref (g4.next + 8), .ref g4.next] (W2.new (.ins "Journal" [])) = some (.ok .non, W) := i19
    simp_arith! [LB, F_law, Z.S.hd, Z.S.tl, Z.S.from, i19, e2n, e5]
  rw [seq_nx t19]
  refine ⟨g5, ?_⟩
  generalize nD (fin32 o p t l given) = q at a35 nf
  simp_arith! [LB, F_law, Z.S.hd, Z.S.tl, Z.S.from, a35, nf, al]

end K32
end Z

theorem PySem.Challenge.cw_meterhouse_k32_jumps_holds : PySem.Challenge.rw_meterhouse_k32_jumps.Holds := by
  exact Z.K32.holds_of 37 (by decide) fun ns hl => Z.K32.law_ok ns hl
