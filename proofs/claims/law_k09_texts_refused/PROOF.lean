import PyProof.Rows.All
import Wide.All
import OpenK.AllK
import Wide.FinOn
import HandS.ForMost
import HandS.ForExc
import HandS.Wide
import HandS.IsInst
import HandS.HeadHook1
import HandS.WideBits
import HandS.TupAny
import HandS.TupLe
import HandS.ExcIs
import KE.KExcPX
import HandS.Conv
import HandS.SortKw
import HandS.More
import HandS.SortInts
import HandS.Strs
import KE.KSortedM
import HandS.Iter
import HandS.Rev
import HandS.Style
import HandS.TryOnly
import HandS.Defaults
import HandS.New0
import HandS.Zip
import PyProof.ListNew
import KE.KStateDown
import HandS.Ends
import HandS.Words
import HandS.WordsExc
import HandS.Head0
import HandS.Head1
import HandS.Head2
import HandS.HeadEnd
import HandS.HeadHook2
import PyProof.Rows.BitMore
import KE.BitLaws
import KE.OsArith
import HandS.TryMany
import PySem.Challenge.RW_meterhouse_k09_texts_refused
set_option Elab.async false
set_option linter.all false
set_option maxRecDepth 100000
/-! ZA: a plain model of the part of Python that the program and the laws use: data, a heap of lists, dicts, instances; expressions and statements as data; what they do, as total functions. -/
namespace Z
open PySem

/-- data: tuples by what they hold; lists, dicts, instances by their places -/
inductive D where
  | non | bl (b : Bool) | int (i : Int) | str (s : Str) | tup (xs : List D) | ref (a : Nat) | exc (c : String) (a : Nat) | xob (k : String)

inductive O where
  | lst (xs : List D)
  | fz (xs : List D)
  | dic (kvs : List (L2.Key × D))
  | dit (kvs : List (List L2.Key × D))
  | ins (c : String) (fs : List (String × D))
  | fzd (kvs : List (L2.Key × D))
  | fzt (kvs : List (List L2.Key × D))

structure Hm where
  get : Nat → Option O
  next : Nat

def Hm.put (h : Hm) (a : Nat) (o : O) : Hm := ⟨fun b => if b = a then some o else h.get b, h.next⟩
def Hm.new (h : Hm) (o : O) : Hm := ⟨fun b => if b = h.next then some o else h.get b, h.next + 1⟩

abbrev Env := List (Option D)
abbrev Res (α : Type) := Option (Except String α × Hm)
@[simp] theorem put_get (h : Hm) (a b : Nat) (o : O) : (h.put a o).get b = if b = a then some o else h.get b := rfl
@[simp] theorem put_next (h : Hm) (a : Nat) (o : O) : (h.put a o).next = h.next := rfl
@[simp] theorem new_get (h : Hm) (b : Nat) (o : O) : (h.new o).get b = if b = h.next then some o else h.get b := rfl
@[simp] theorem new_next (h : Hm) (o : O) : (h.new o).next = h.next + 1 := rfl

def bnd {α β : Type} (m : Res α) (f : α → Hm → Res β) : Res β := match m with
  | none => none
  | some (.error k, h) => some (.error k, h)
  | some (.ok a, h) => f a h
@[simp] theorem bnd_none {α β : Type} (f : α → Hm → Res β) : bnd none f = none := rfl
@[simp] theorem bnd_error {α β : Type} (k : String) (h : Hm) (f : α → Hm → Res β) : bnd (some (.error k, h)) f = some (.error k, h) := rfl
@[simp] theorem bnd_ok {α β : Type} (a : α) (h : Hm) (f : α → Hm → Res β) : bnd (some (.ok a, h)) f = f a h := rfl

/-! ### syntax -/
inductive Bop where | add | sub | mul | fdiv | mod | pow | shl | shr | band | bor | bxor
inductive Cop where | eq | ne | lt | le | gt | ge | isN | notN | inn | nin
inductive Bi where | len | int | str | list | tuple | dict | min2 | max2 | sum | sorted | divmod | abs | any | minD | lset
inductive Bm where | append | pop | get | get2 | dpop | join | split | partition | index | insert | clear | find | isdigit
inductive Tn where | int | bool | str | tuple | list | dict
inductive Cst where | non | bl (b : Bool) | int (i : Int) | str (s : String)
inductive Tg where | name (i : Nat) | tup (is : List Nat)
inductive ItK where | seq | range1 | range2 | range3 | rev | enum | zip | keys | vals | items

def Cst.d : Cst → D
  | .non => .non
  | .bl b => .bl b
  | .int i => .int i
  | .str s => .str (Str.ofString s)

mutual
inductive E where
  | var (i : Nat)
  | con (c : Cst)
  | glo (x : String)
  | bin (o : Bop) (a b : E)
  | neg (a : E)
  | cmp (o : Cop) (a b : E)
  | chn (o o' : Cop) (a b c : E)
  | and (a b : E)
  | or (a b : E)
  | not (a : E)
  | ife (c : T) (a b : E)
  | idx (a b : E)
  | dgt (a b : E)
  | slc (a : E) (lo hi : Eo)
  | att (a : E) (f : String)
  | tup (es : Es)
  | lst (es : Es)
  | dict (es : Es)
  | call (f : String) (es : Es) (ds : List Cst)
  | meth (o : E) (m : String) (es : Es) (ds : List Cst)
  | new (c : String) (es : Es)
  | bi (b : Bi) (es : Es)
  | bm (b : Bm) (o : E) (es : Es)
  | isi (a : E) (t : Tn)
  | isi2 (a : E) (t u : Tn)
  | gix (x : String) (e : E)
  | comp (elt : E) (own : List Nat) (g : Tg) (k : ItK) (es : Es) (tst : T)
  | fst (es : Es)
  | rsl (a : E)
  | dictT
  | dgtT (a : E) (es : Es)
  | getT (a : E) (es : Es) (d : Cst)
  | lck (i : Nat) (e : E)
  | new0 (c : String)
  | isc (a : E) (c : String)
  | isx (i : Nat) (c : String)
  | isxB (i : Nat) (c : String)
  | iso (a : E) (c : String)
  | lrg (a : E)
  | isoB (a : E) (c : String)
inductive Es where
  | nil
  | cons (e : E) (es : Es)
inductive Eo where
  | none
  | some (e : E)
inductive T where
  | yes
  | cmp (o : Cop) (a b : E)
  | chn (o o' : Cop) (a b c : E)
  | and (a b : T)
  | or (a b : T)
  | not (a : T)
  | tru (a : E)
end

def Es.len : Es → Nat
  | .nil => 0
  | .cons _ es => es.len + 1
inductive S where
  | skip
  | seq (a b : S)
  | asg (i : Nat) (e : E)
  | unp (is : List Nat) (e : E)
  | sfld (o : E) (f : String) (e : E)
  | sidx (o i e : E)
  | dput (o i e : E)
  | aug (i : Nat) (o : Bop) (e : E)
  | augf (o : E) (f : String) (op : Bop) (e : E)
  | augi (o i : E) (op : Bop) (e : E)
  | ite (c : T) (a b : S)
  | for_ (g : Tg) (k : ItK) (es : Es) (body : S)
  | wh (c : T) (body : S)
  | ret (e : E)
  | drop (e : E)
  | rai (c : String)
  | try_ (body : S) (c : String) (x : Option Nat) (suite : S)
  | dputT (o : E) (es : Es) (e : E)
  | lck (i : Nat) (s : S)
  | par (i j : Nat) (es : Es)
  | tryK (body : S) (c : String) (i j : Nat)
end Z

set_option maxRecDepth 100000
/-! ZB: what the model's expressions and statements do. -/
namespace Z
open PySem

def lim : Nat := 1000000
def big (i : Int) : Prop := -(2 ^ 250) < i ∧ i < 2 ^ 250
def w64 (i : Int) : Prop := -(2 ^ 64) < i ∧ i < 2 ^ 64
instance (i : Int) : Decidable (big i) := inferInstanceAs (Decidable (_ ∧ _))
instance (i : Int) : Decidable (w64 i) := inferInstanceAs (Decidable (_ ∧ _))
def mulOk (i j : Int) : Prop := w64 i ∨ w64 j ∨ (big i ∧ big j)
instance (i j : Int) : Decidable (mulOk i j) := inferInstanceAs (Decidable (_ ∨ _))
def rng62 (i : Int) : Prop := -(2 ^ 62) ≤ i ∧ i < 2 ^ 62
instance (i : Int) : Decidable (rng62 i) := inferInstanceAs (Decidable (_ ∧ _))

/-! ### lists by places -/
def atD {α : Type} (xs : List α) (i : Int) : Option α := if 0 ≤ i then xs[i.toNat]? else if -(xs.length : Int) ≤ i then xs[(i + xs.length).toNat]? else none
def ixD (n : Nat) (i : Int) : Option Nat := if 0 ≤ i then (if i < n then some i.toNat else none) else if -(n : Int) ≤ i then some (i + n).toNat else none
def sI (n d : Nat) : Option Int → Nat
  | none => d
  | some v => if v < 0 then (v + (n : Int)).toNat else min v.toNat n
def cut {α : Type} (xs : List α) (lo hi : Option Int) : List α := (xs.drop (sI xs.length 0 lo)).take (sI xs.length xs.length hi - sI xs.length 0 lo)
def cutT (z : Str) (lo hi : Option Int) : Str := ⟨((z.cps.toList.drop (sI z.length 0 lo)).take (sI z.length z.length hi - sI z.length 0 lo)).toArray⟩

/-! ### dicts -/
section
variable {κ α : Type} [DecidableEq κ]
def kget (kvs : List (κ × α)) (k : κ) : Option α := (kvs.find? fun kv => decide (kv.1 = k)).map (·.2)
def kput (kvs : List (κ × α)) (k : κ) (v : α) : List (κ × α) :=
  if (kvs.any fun kv => decide (kv.1 = k)) = true then kvs.map (fun kv => if kv.1 = k then (kv.1, v) else kv) else kvs ++ [(k, v)]
def kdrop (kvs : List (κ × α)) (k : κ) : List (κ × α) := kvs.filter fun kv => decide (kv.1 ≠ k)
def kmerge (kvs more : List (κ × α)) : List (κ × α) := more.foldl (fun acc kv => kput acc kv.1 kv.2) kvs
end
def key? : D → Option L2.Key
  | .int i => some (.inl i)
  | .str s => some (.inr s)
  | _ => none
def keys? : List D → Option (List L2.Key)
  | [] => some []
  | d :: ds => match key? d, keys? ds with
    | some k, some ks => some (k :: ks)
    | _, _ => none
def keyD : L2.Key → D
  | .inl i => .int i
  | .inr s => .str s
def dget (h : Hm) (a : Nat) (k : D) : Option (Option D) := match h.get a with
  | some (.dic kvs) => (key? k).map fun q => kget kvs q
  | some (.fzd kvs) => (key? k).map fun q => kget kvs q
  | _ => none
/-- at a tuple as key -/
def dgetT (h : Hm) (a : Nat) (ks : List D) : Option (Option D) := match h.get a with
  | some (.dit kvs) => (keys? ks).map fun q => kget kvs q
  | some (.fzt kvs) => (keys? ks).map fun q => kget kvs q
  | _ => none
def dputT (h : Hm) (a : Nat) (ks : List D) (v : D) : Option Hm := match h.get a with
  | some (.dit kvs) => if kvs.length < lim then (keys? ks).map fun q => h.put a (.dit (kput kvs q v)) else none
  | _ => none
/-- a dict, locked; is it still -/
def lckO : O → Option O
  | .dic kvs => some (.fzd kvs)
  | .dit kvs => some (.fzt kvs)
  | _ => none
def frzO : Option O → Bool
  | some (.fzd _) => true
  | some (.fzt _) => true
  | _ => false
def dput (h : Hm) (a : Nat) (k v : D) : Option Hm := match h.get a with
  | some (.dic kvs) => if kvs.length < lim then (key? k).map fun q => h.put a (.dic (kput kvs q v)) else none
  | _ => none

/-- the pairs of a display -/
def pairUp : List D → Option (List (L2.Key × D))
  | [] => some []
  | k :: v :: r => match key? k, pairUp r with
    | some q, some ps => some ((q, v) :: ps)
    | _, _ => none
  | _ => none
/-- a display's dict, its pairs laid in -/
def dispO (o : Option O) (p : Option (List (L2.Key × D))) (h1 : Hm) (a : Nat) : Option (Except String D × Hm) := match o, p with
  | some (.dic []), some kvs => if kvs.length ≤ 15 then some (.ok (.ref a), h1.put a (.dic (kmerge [] kvs))) else none
  | _, _ => none

/-! ### deep values and == -/
def mapO {α β : Type} (f : α → Option β) : List α → Option (List β)
  | [] => some []
  | x :: xs => match f x, mapO f xs with
    | some y, some ys => some (y :: ys)
    | _, _ => none
def dat (h : Hm) : Nat → D → Option PyData
  | _, .non => some .none
  | _, .bl b => some (.bool b)
  | _, .int i => some (.int i)
  | _, .str s => some (.str s)
  | n + 1, .tup xs => (mapO (dat h n) xs).map .tuple
  | n + 1, .ref a => (match h.get a with
    | some (.lst xs) => (mapO (dat h n) xs).map .list
    | some (.fz xs) => (mapO (dat h n) xs).map .list
    | _ => none)
  | _, _ => none
def deep : Nat := 30
def eqD (x y : D) (h : Hm) : Option Bool := match x, y with
  | .int i, .int j => some (decide (i = j))
  | .str s, .str t => some (decide (s = t))
  | .bl a, .bl b => some (decide (a = b))
  | .non, .non => some true
  | .int _, .str _ => some false
  | .str _, .int _ => some false
  | x, y => match dat h deep x, dat h deep y with
    | some d, some e => if (SeqAt.shaped d && SeqAt.shaped e) = true then some (PyData.eqv d e) else none
    | _, _ => none
def flatD : D → Bool
  | .non => true
  | .bl _ => true
  | .int _ => true
  | .str _ => true
  | _ => false
def eqF : D → D → Bool
  | .non, .non => true
  | .bl a, .bl b => a == b
  | .bl a, .int b => (if a then 1 else 0) == b
  | .int a, .bl b => a == (if b then 1 else 0)
  | .int a, .int b => a == b
  | .str a, .str b => a == b
  | _, _ => false
def inL (x : D) (xs : List D) : Option Bool := if flatD x = true ∧ xs.all flatD = true then some (xs.any fun y => eqF y x) else none
def inS (s z : Str) : Bool := if s.cps.size = 1 then decide (s.cps.getD 0 0 ∈ z.cps.toList) else !(Builtin.Str.occurrences z s 0 z.length 1).isEmpty
def inD (x y : D) (h : Hm) : Option Bool := match y with
  | .str z => (match x with
    | .str s => some (inS s z)
    | _ => none)
  | .tup xs => inL x xs
  | .ref a => (match h.get a with
    | some (.lst xs) => inL x xs
    | some (.fz xs) => inL x xs
    | some (.dic _) => (dget h a x).map Option.isSome
    | some (.fzd _) => (dget h a x).map Option.isSome
    | _ => none)
  | _ => none
def cmpD (o : Cop) (x y : D) (h : Hm) : Option Bool := match o with
  | .eq => eqD x y h
  | .ne => (eqD x y h).map fun b => !b
  | .lt => (match x, y with
    | .int i, .int j => some (decide (i < j))
    | _, _ => none)
  | .le => (match x, y with
    | .int i, .int j => some (decide (i ≤ j))
    | _, _ => none)
  | .gt => (match x, y with
    | .int i, .int j => some (decide (j < i))
    | _, _ => none)
  | .ge => (match x, y with
    | .int i, .int j => some (decide (j ≤ i))
    | _, _ => none)
  | .isN => (match x, y with
    | .bl a, .bl b => some (decide (a = b))
    | .non, .non => some true
    | _, .non => some false
    | _, _ => none)
  | .notN => (match x, y with
    | .bl a, .bl b => some (!decide (a = b))
    | .non, .non => some false
    | _, .non => some true
    | _, _ => none)
  | .inn => inD x y h
  | .nin => (inD x y h).map fun b => !b

/-! ### operators -/
def ok {α : Type} (x : α) (h : Hm) : Res α := some (.ok x, h)
/-- a text, k times -/
def repS (s : Str) (k : Int) : Str := ⟨List.foldl (fun a b => a ++ b) #[] (List.replicate k.toNat s.cps)⟩
def binD (o : Bop) (x y : D) (h : Hm) : Res D := match o with
  | .add => (match x, y with
    | .int i, .int j => ok (.int (i + j)) h
    | .str s, .str t => if s.length + t.length ≤ lim then ok (.str (s ++ t)) h else none
    | .tup (x :: xs), .tup ys => if xs.length + ys.length < lim then ok (.tup (x :: xs ++ ys)) h else none
    | .ref a, .ref b => (match h.get a, h.get b with
      | some (.lst xs), some (.lst ys) => if xs.length + ys.length ≤ lim then ok (.ref h.next) (h.new (.lst (xs ++ ys))) else none
      | _, _ => none)
    | _, _ => none)
  | .sub => (match x, y with
    | .int i, .int j => ok (.int (i - j)) h
    | _, _ => none)
  | .mul => (match x, y with
    | .int i, .int j => if mulOk i j then ok (.int (i * j)) h else none
    | .str s, .int k => if s.length = 1 ∧ 2 ≤ k ∧ k ≤ 10000 then ok (.str (repS s k)) h else none
    | .ref a, .int k => (match h.get a with
      | some (.lst xs) => if rng62 k ∧ xs.length * k.toNat ≤ lim then ok (.ref h.next) (h.new (.lst (List.replicate k.toNat xs).flatten)) else none
      | _ => none)
    | _, _ => none)
  | .fdiv => (match x, y with
    | .int i, .int j => if 0 < j ∧ j < 2 ^ 250 then ok (.int (i / j)) h else none
    | _, _ => none)
  | .mod => (match x, y with
    | .int i, .int j => if 0 < j then ok (.int (i % j)) h else none
    | _, _ => none)
  | .pow => (match x, y with
    | .int i, .int j => if 0 ≤ j ∧ j ≤ 1000000 ∧ w64 i then ok (.int (i ^ j.toNat)) h else none
    | _, _ => none)
  | .shl => (match x, y with
    | .int i, .int j => if 0 ≤ j ∧ j ≤ 1000000 ∧ w64 i then ok (.int (i * 2 ^ j.toNat)) h else none
    | _, _ => none)
  | .shr => (match x, y with
    | .int i, .int j => if 0 ≤ j then ok (.int (i / 2 ^ j.toNat)) h else none
    | _, _ => none)
  | .band => (match x, y with
    | .int i, .int j => ok (.int (Builtin.bitAnd i j)) h
    | _, _ => none)
  | .bor => (match x, y with
    | .int i, .int j => ok (.int (Builtin.bitOr i j)) h
    | _, _ => none)
  | .bxor => (match x, y with
    | .int i, .int j => ok (.int (Builtin.bitXor i j)) h
    | _, _ => none)
def negD (x : D) (h : Hm) : Res D := match x with
  | .int i => ok (.int (-i)) h
  | _ => none
def idxD (x y : D) (h : Hm) : Option D := match y with
  | .int i => (match x with
    | .tup xs => atD xs i
    | .ref a => (match h.get a with
      | some (.lst xs) => atD xs i
      | some (.fz xs) => atD xs i
      | _ => none)
    | .str z => if z.length ≤ lim then (atD z.cps.toList i).map fun c => .str ⟨#[c]⟩ else none
    | _ => none)
  | _ => none
def slcD (x : D) (lo hi : Option Int) (h : Hm) : Res D := match x with
  | .tup xs => ok (.tup (cut xs lo hi)) h
  | .ref a => (match h.get a with
    | some (.lst xs) => ok (.ref h.next) (h.new (.lst (cut xs lo hi)))
    | some (.fz xs) => ok (.ref h.next) (h.new (.lst (cut xs lo hi)))
    | _ => none)
  | .str z => if z.length ≤ lim then ok (.str (cutT z lo hi)) h else none
  | _ => none
def truD (x : D) (h : Hm) : Option Bool := match x with
  | .non => some false
  | .bl b => some b
  | .int i => some (i != 0)
  | .str s => if s.length ≤ lim then some ((s.length : Int) != 0) else none
  | .tup xs => some (!xs.isEmpty)
  | .ref a => (match h.get a with
    | some (.lst xs) => some (!xs.isEmpty)
    | some (.fz xs) => some (!xs.isEmpty)
    | some (.dic kvs) => some (!kvs.isEmpty)
    | _ => none)
  | _ => none

/-! ### built-in functions and methods -/
def ints? : List D → Option (List Int)
  | [] => some []
  | .int i :: ds => (ints? ds).map fun r => i :: r
  | _ => none
def bls? : List D → Option (List Bool)
  | [] => some []
  | .bl i :: ds => (bls? ds).map fun r => i :: r
  | _ => none
def strs? : List D → Option (List Str)
  | [] => some []
  | .str i :: ds => (strs? ds).map fun r => i :: r
  | _ => none
def insI (x : Int) : List Int → List Int
  | [] => [x]
  | y :: ys => if x ≤ y then x :: y :: ys else y :: insI x ys
def srt : List Int → List Int
  | [] => []
  | x :: xs => insI x (srt xs)
def seqOf (x : D) (h : Hm) : Option (List D) := match x with
  | .tup xs => some xs
  | .ref a => (match h.get a with
    | some (.lst xs) => some xs
    | some (.fz xs) => some xs
    | _ => none)
  | _ => none
/-- the items of a list that is no tuple -/
def lstOf (x : D) (h : Hm) : Option (List D) := match x with
  | .ref a => (match h.get a with
    | some (.lst xs) => some xs
    | some (.fz xs) => some xs
    | _ => none)
  | _ => none
/-- the least of whole numbers, d where there is none -/
def lmin (d : Int) : List Int → Int
  | [] => d
  | x :: r => r.foldl (fun m y => if y < m then y else m) x
theorem lfold_mem : ∀ (r : List Int) (x : Int), r.foldl (fun m y => if y < m then y else m) x ∈ x :: r
  | [], x => List.mem_cons_self
  | y :: r, x => by
    rw [List.foldl_cons]
    have := lfold_mem r (if y < x then y else x)
    rcases List.mem_cons.mp this with e | e
    · rw [e]; split <;> simp
    · exact List.mem_cons_of_mem _ (List.mem_cons_of_mem _ e)
theorem lfold_le : ∀ (r : List Int) (x : Int), (∀ z ∈ x :: r, r.foldl (fun m y => if y < m then y else m) x ≤ z)
  | [], x, z, hz => by rw [List.mem_singleton.mp hz]; exact Int.le_refl _
  | y :: r, x, z, hz => by
    rw [List.foldl_cons]
    have h := lfold_le r (if y < x then y else x)
    have h0 := h _ List.mem_cons_self
    generalize r.foldl (fun m y => if y < m then y else m) (if y < x then y else x) = m at h h0 ⊢
    rcases List.mem_cons.mp hz with e | hz
    · rw [e]; split at h0 <;> omega
    · rcases List.mem_cons.mp hz with e | hz
      · rw [e]; split at h0 <;> omega
      · exact h z (List.mem_cons_of_mem _ hz)
theorem lmin_eq (d m : Int) (ns : List Int) (h0 : ns = [] → m = d) (h1 : ns ≠ [] → m ∈ ns ∧ ∀ y ∈ ns, m ≤ y) : m = lmin d ns := by
  cases ns with
  | nil => exact h0 rfl
  | cons x r =>
    obtain ⟨a, b⟩ := h1 (by simp)
    exact Int.le_antisymm (b _ (lfold_mem r x)) (lfold_le r x m a)
def biD (b : Bi) (vs : List D) (h : Hm) : Res D := match b with
  | .len => (match vs with
    | [.str s] => if s.length ≤ lim then ok (.int s.length) h else none
    | [.tup xs] => ok (.int xs.length) h
    | [.ref a] => (match h.get a with
      | some (.lst xs) => ok (.int xs.length) h
      | some (.fz xs) => ok (.int xs.length) h
      | some (.dic kvs) => ok (.int kvs.length) h
      | _ => none)
    | _ => none)
  | .int => (match vs with
    | [.int i] => ok (.int i) h
    | [.bl b] => ok (.int (if b then 1 else 0)) h
    | [.str s] => if s.length ≤ 640 then (match intText? s with
      | some n => ok (.int n) h
      | none => none) else none
    | _ => none)
  | .str => (match vs with
    | [.int i] => if -(2 ^ 250) < i ∧ i < 2 ^ 250 then ok (.str (Str.ofString (toString i))) h else none
    | _ => none)
  | .list => (match vs with
    | [x] => (match seqOf x h with
      | some xs => ok (.ref h.next) (h.new (.lst xs))
      | none => (match x with
        | .ref a => (match h.get a with
          | some (.dic kvs) => ok (.ref h.next) (h.new (.lst (kvs.map fun kv => keyD kv.1)))
          | _ => none)
        | _ => none))
    | _ => none)
  | .tuple => (match vs with
    | [x] => (match seqOf x h with
      | some xs => ok (.tup xs) h
      | none => none)
    | _ => none)
  | .dict => (match vs with
    | [.ref a] => (match h.get a with
      | some (.dic kvs) => ok (.ref h.next) (h.new (.dic kvs))
      | _ => none)
    | _ => none)
  | .min2 => (match vs with
    | [.int i, .int j] => ok (.int (if j < i then j else i)) h
    | _ => none)
  | .minD => (match vs with
    | [x, .int d] => (match lstOf x h with
      | some xs => (match ints? xs with
        | some ns => ok (.int (lmin d ns)) h
        | none => none)
      | none => none)
    | _ => none)
  | .lset => (match vs with
    | [x] => (match lstOf x h with
      | some xs => (match ints? xs with
        | some ns => if ns.Nodup ∧ ns.length ≤ 4000 then ok (.int ((ns.length : Nat) : Int)) h else none
        | none => none)
      | none => none)
    | _ => none)
  | .max2 => (match vs with
    | [.int i, .int j] => ok (.int (if j > i then j else i)) h
    | _ => none)
  | .sum => (match vs with
    | [x] => (match lstOf x h with
      | some xs => (match ints? xs with
        | some ns => ok (.int ns.sum) h
        | none => none)
      | none => none)
    | _ => none)
  | .sorted => (match vs with
    | [x] => (match lstOf x h with
      | some xs => (match ints? xs with
        | some ns => ok (.ref h.next) (h.new (.lst ((srt ns).map .int)))
        | none => none)
      | none => (match x with
        | .ref a => (match h.get a with
          | some (.dic kvs) => (match ints? (kvs.map fun kv => keyD kv.1) with
            | some ns => if ns.length < 900000 then ok (.ref h.next) (h.new (.lst ((srt ns).map .int))) else none
            | none => none)
          | _ => none)
        | _ => none))
    | _ => none)
  | .divmod => (match vs with
    | [.int i, .int j] => if 0 < j ∧ -(2 ^ 250) < i ∧ i < 2 ^ 250 then ok (.tup [.int (i / j), .int (i % j)]) h else none
    | _ => none)
  | .abs => (match vs with
    | [.int i] => ok (.int (if i < 0 then -i else i)) h
    | _ => none)
  | .any => (match vs with
    | [x] => (match lstOf x h with
      | some xs => (match bls? xs with
        | some bs => ok (.bl (bs.any id)) h
        | none => none)
      | none => none)
    | _ => none)
/-- the first place of a flat thing -/
def whereL (x : D) : List D → Option Nat
  | [] => none
  | y :: ys => if eqF y x = true then some 0 else (whereL x ys).map (· + 1)
/-- the first place of a text in a tuple of texts -/
def gixD (x y : D) (h : Hm) : Res D := match x, y with
  | .tup xs, .str z => (match strs? xs with
    | some ys => (match ys.findIdx? fun s => decide (s = z) with
      | some j => ok (.int j) h
      | none => none)
    | none => none)
  | _, _ => none
/-- what kind of thing a method asks of its receiver -/
def rcv (b : Bm) (x : D) (h : Hm) : Bool := match b with
  | .append => (lstOf x h).isSome
  | .pop => (lstOf x h).isSome
  | .insert => (lstOf x h).isSome
  | .clear => (lstOf x h).isSome
  | .index => (lstOf x h).isSome
  | .get => isDic x h
  | .get2 => isDic x h
  | .dpop => isDic x h
  | _ => (match x with
    | .str _ => true
    | _ => false)
where isDic (x : D) (h : Hm) : Bool := match x with
  | .ref a => (match h.get a with
    | some (.dic _) => true
    | some (.fzd _) => true
    | _ => false)
  | _ => false
def bmD (b : Bm) (x : D) (vs : List D) (h : Hm) : Res D := match b with
  | .append => (match x, vs with
    | .ref a, [v] => (match h.get a with
      | some (.lst xs) => if xs.length < lim then ok .non (h.put a (.lst (xs ++ [v]))) else none
      | _ => none)
    | _, _ => none)
  | .pop => (match x, vs with
    | .ref a, [] => (match h.get a with
      | some (.lst xs) => (match xs.getLast? with
        | some y => ok y (h.put a (.lst xs.dropLast))
        | none => none)
      | _ => none)
    | _, _ => none)
  | .get => (match x, vs with
    | .ref a, [k] => (match dget h a k with
      | some (some v) => ok v h
      | some none => ok .non h
      | none => none)
    | _, _ => none)
  | .get2 => (match x, vs with
    | .ref a, [k, y] => (match dget h a k with
      | some (some v) => ok v h
      | some none => ok y h
      | none => none)
    | _, _ => none)
  | .dpop => (match x, vs with
    | .ref a, [k] => (match h.get a with
      | some (.dic kvs) => (match key? k with
        | some q => (match kget kvs q with
          | some v => ok v (h.put a (.dic (kdrop kvs q)))
          | none => none)
        | none => none)
      | _ => none)
    | _, _ => none)
  | .join => (match x, vs with
    | .str z, [y] => (match seqOf y h with
      | some xs => (match strs? xs with
        | some ys => if (ys.map (·.length)).sum + ys.length * z.length ≤ 16777216 then ok (.str (PySem.Txt.join z ys)) h else none
        | none => none)
      | none => none)
    | _, _ => none)
  | .split => (match x, vs with
    | .str z, [.str y] => if (y.length == 0) = false ∧ z.length ≤ lim then ok (.ref h.next) (h.new (.lst ((PySem.Txt.split z y).map .str))) else none
    | _, _ => none)
  | .partition => (match x, vs with
    | .str z, [.str y] => if (y.length == 0) = false ∧ z.length ≤ lim then
        ok (.tup [.str (PySem.Txt.partition z y).1, .str (PySem.Txt.partition z y).2.1, .str (PySem.Txt.partition z y).2.2]) h else none
    | _, _ => none)
  | .index => (match vs with
    | [y] => (match lstOf x h with
      | some xs => if flatD y = true ∧ xs.all flatD = true then (match whereL y xs with
        | some j => ok (.int j) h
        | none => none) else none
      | none => none)
    | _ => none)
  | .insert => (match x, vs with
    | .ref a, [.int i, v] => (match h.get a with
      | some (.lst xs) => if xs.length < lim ∧ 0 ≤ i ∧ i < 2 ^ 62 then ok .non (h.put a (.lst (xs.take i.toNat ++ [v] ++ xs.drop i.toNat))) else none
      | _ => none)
    | _, _ => none)
  | .clear => (match x, vs with
    | .ref a, [] => (match h.get a with
      | some (.lst xs) => ok .non (h.put a (.lst []))
      | _ => none)
    | _, _ => none)
  | .find => (match x, vs with
    | .str z, [.str y] => ok (.int (PySem.Txt.find z y)) h
    | _, _ => none)
  | .isdigit => (match x, vs with
    | .str z, [] => ok (.bl (PySem.Txt.isdigit z)) h
    | _, _ => none)
end Z

set_option maxRecDepth 100000
/-! ZC: the runs: expressions, tests, statements, defs. -/
namespace Z
open PySem

/-- a def: parameters, names in all, body -/
structure Fn where
  np : Nat
  ns : Nat
  body : S
/-- a program: its defs (methods by "Class.name"), its constants, which def a class's method is, which names are an instance's own, which class takes which exception; how often a while may turn -/
structure Prog where
  fn : String → Option Fn
  glob : String → Option D
  mt : String → String → Option String
  fld : String → String → Bool
  exm : String → String → Option Bool
  lf : Nat
  sub : String → String → Option Bool := fun _ _ => none
  exs : String → String → Option Bool := fun _ _ => none
  exb : String → String → Option Bool := fun _ _ => none
  xk : Option (String × Nat) := none

inductive Fl where | nx | rt (d : D) | ex (k : String)
abbrev Out := Option (Fl × Env × Hm)

def stays (gd : List (Nat × O)) (h : Hm) : Prop := ∀ p ∈ gd, h.get p.1 = some p.2
def setN (env : Env) : List Nat → List D → Option Env
  | [], [] => some env
  | i :: is, d :: ds => setN (env.set i (some d)) is ds
  | _, _ => none
def asgT (g : Tg) (x : D) (env : Env) : Option Env := match g with
  | .name i => some (env.set i (some x))
  | .tup is => (match x with
    | .tup xs => setN env is xs
    | _ => none)
def wipeE (env : Env) : List Nat → Env
  | [] => env
  | v :: vs => (wipeE env vs).set v none
/-- what is walked: the items, and what must stay so -/
def walk (k : ItK) (vs : List D) (h : Hm) : Option (List D × List (Nat × O)) := match k with
  | .seq => (match vs with
    | [.tup xs] => some (xs, [])
    | [.str z] => some (z.cps.toList.map fun c => .str ⟨#[c]⟩, [])
    | [.ref a] => (match h.get a with
      | some (.lst xs) => some (xs, [(a, .lst xs)])
      | some (.fz xs) => some (xs, [(a, .fz xs)])
      | _ => none)
    | _ => none)
  | .range1 => (match vs with
    | [.int n] => if rng62 n then some ((List.range n.toNat).map fun (i : Nat) => .int (i : Int), []) else none
    | _ => none)
  | .range2 => (match vs with
    | [.int m, .int n] => if rng62 m ∧ rng62 n then some ((List.range (n - m).toNat).map fun (i : Nat) => .int (m + (i : Int)), []) else none
    | _ => none)
  | .range3 => (match vs with
    | [.int m, .int n, .int c] => if (c = 2 ∨ c = 7) ∧ rng62 m ∧ rng62 n then some ((List.range (if m < n then (n - m - 1) / c + 1 else 0).toNat).map fun (i : Nat) => .int (m + (i : Int) * c), []) else none
    | _ => none)
  | .rev => (match vs with
    | [.tup xs] => some (xs.reverse, [])
    | [.ref a] => (match h.get a with
      | some (.lst xs) => some (xs.reverse, [(a, .lst xs)])
      | some (.fz xs) => some (xs.reverse, [(a, .fz xs)])
      | _ => none)
    | _ => none)
  | .keys => (match vs with
    | [.ref a] => (match h.get a with
      | some (.fzd kvs) => some (kvs.map fun kv => keyD kv.1, [])
      | some (.fzt kvs) => some (kvs.map fun kv => .tup (kv.1.map keyD), [])
      | _ => none)
    | _ => none)
  | .vals => (match vs with
    | [.ref a] => (match h.get a with
      | some (.fzd kvs) => some (kvs.map fun kv => kv.2, [])
      | _ => none)
    | _ => none)
  | .items => (match vs with
    | [.ref a] => (match h.get a with
      | some (.fzd kvs) => some (kvs.map fun kv => .tup [keyD kv.1, kv.2], [])
      | _ => none)
    | _ => none)
  | .zip => (match vs with
    | [.ref a, .ref b] => (match h.get a, h.get b with
      | some (.lst xs), some (.lst ys) => some ((xs.zip ys).map fun p => .tup [p.1, p.2], [(a, .lst xs), (b, .lst ys)])
      | _, _ => none)
    | _ => none)
  | .enum => (match vs with
    | [.ref a] => (match h.get a with
      | some (.lst xs) => some (xs.zipIdx.map fun p => .tup [.int (p.2 : Nat), p.1], [(a, .lst xs)])
      | _ => none)
    | _ => none)

/-- an error in a comprehension is not followed -/
def bndN {α β : Type} (m : Res α) (f : α → Hm → Res β) : Res β := match m with
  | some (.ok a, h) => f a h
  | _ => none
@[simp] theorem bndN_none {α β : Type} (f : α → Hm → Res β) : bndN none f = none := rfl
@[simp] theorem bndN_error {α β : Type} (k : String) (h : Hm) (f : α → Hm → Res β) : bndN (some (.error k, h)) f = none := rfl
@[simp] theorem bndN_ok {α β : Type} (a : α) (h : Hm) (f : α → Hm → Res β) : bndN (some (.ok a, h)) f = f a h := rfl

open Classical in
noncomputable def compL (fe : Env → Hm → Res D) (ft : Env → Hm → Res Bool) (g : Tg) (gd : List (Nat × O)) (a : Nat) (env : Env) : List D → Hm → Res D
  | [], h => if stays gd h then ok (.ref a) h else none
  | x :: xs, h => if stays gd h then (match asgT g x env with
    | none => none
    | some env1 => bndN (ft env1 h) fun b h2 => if b = true then bndN (fe env1 h2) fun y h3 => (match h3.get a with
      | some (.lst acc) => if acc.length < lim then compL fe ft g gd a env xs (h3.put a (.lst (acc ++ [y]))) else none
      | _ => none) else compL fe ft g gd a env xs h2) else none

def liftO {α : Type} (o : Option α) (h : Hm) : Res α := match o with
  | some x => ok x h
  | none => none
abbrev Cl := String → List D → Hm → Res D

/-- a thing's type by name -/
def tyN (x : D) (h : Hm) : Option String := match x with
  | .non => some "NoneType"
  | .bl _ => some "bool"
  | .int _ => some "int"
  | .str _ => some "str"
  | .tup _ => some "tuple"
  | .ref a => (match h.get a with
    | some (.lst _) => some "list"
    | some (.fz _) => some "list"
    | some (.dic _) => some "dict"
    | _ => none)
  | .exc _ _ => none
  | .xob _ => none
def Tn.nm : Tn → String
  | .int => "int"
  | .bool => "bool"
  | .str => "str"
  | .tuple => "tuple"
  | .list => "list"
  | .dict => "dict"
def isTn (a : String) (t : Tn) : Bool := a == t.nm || (a == "bool" && t.nm == "int")
def Tg.in_ (g : Tg) (own : List Nat) : Bool := match g with
  | .name i => own.contains i
  | .tup is => is.all own.contains
mutual
noncomputable def ev (P : Prog) (cl : Cl) : E → Env → Hm → Res D
  | .var i, env, h => (match env[i]? with
    | some (some d) => ok d h
    | _ => none)
  | .con c, _, h => ok c.d h
  | .glo x, _, h => liftO (P.glob x) h
  | .bin o a b, env, h => bnd (ev P cl a env h) fun x h1 => bnd (ev P cl b env h1) fun y h2 => binD o x y h2
  | .neg a, env, h => bnd (ev P cl a env h) negD
  | .cmp o a b, env, h => bnd (ev P cl a env h) fun x h1 => bnd (ev P cl b env h1) fun y h2 => liftO ((cmpD o x y h2).map .bl) h2
  | .chn o o' a b c, env, h => bnd (ev P cl a env h) fun x h1 => bnd (ev P cl b env h1) fun y h2 => (match cmpD o x y h2 with
    | some true => bnd (ev P cl c env h2) fun z h3 => liftO ((cmpD o' y z h3).map .bl) h3
    | some false => ok (.bl false) h2
    | none => none)
  | .and a b, env, h => bnd (ev P cl a env h) fun x h1 => (match x with
    | .bl true => ev P cl b env h1
    | .bl false => ok (.bl false) h1
    | _ => none)
  | .or a b, env, h => bnd (ev P cl a env h) fun x h1 => (match x with
    | .bl true => ok (.bl true) h1
    | .bl false => ev P cl b env h1
    | _ => none)
  | .not a, env, h => bnd (ev P cl a env h) fun x h1 => (match x with
    | .bl b => ok (.bl (!b)) h1
    | _ => none)
  | .ife c a b, env, h => bnd (evT P cl c env h) fun k h1 => if k = true then ev P cl a env h1 else ev P cl b env h1
  | .idx a b, env, h => bnd (ev P cl a env h) fun x h1 => bnd (ev P cl b env h1) fun y h2 => liftO (idxD x y h2) h2
  | .dgt a b, env, h => bnd (ev P cl a env h) fun x h1 => bnd (ev P cl b env h1) fun y h2 => (match x with
    | .ref p => (match dget h2 p y with
      | some (some v) => ok v h2
      | _ => none)
    | _ => none)
  | .slc a lo hi, env, h => bnd (ev P cl a env h) fun x h1 => bnd (evO P cl lo env h1) fun l h2 => bnd (evO P cl hi env h2) fun u h3 => slcD x l u h3
  | .att a f, env, h => bnd (ev P cl a env h) fun x h1 => (match x with
    | .ref p => (match h1.get p with
      | some (.ins c fs) => if P.fld c f = true then liftO (fs.lookup f) h1 else none
      | _ => none)
    | _ => none)
  | .tup es, env, h => bnd (evs P cl es env h) fun vs h1 => if vs.length ≤ lim then ok (.tup vs) h1 else none
  | .lst es, env, h => bnd (evs P cl es env h) fun vs h1 => if vs.length ≤ lim then ok (.ref h1.next) (h1.new (.lst vs)) else none
  | .dict es, env, h => (match es with
    | .nil => ok (.ref h.next) (h.new (.dic []))
    | _ => if es.len % 2 = 0 then bnd (evs P cl es env (h.new (.dic []))) fun vs h1 => dispO (h1.get h.next) (pairUp vs) h1 h.next else none)
  | .call f es ds, env, h => bnd (evs P cl es env h) fun vs h1 => cl f (vs ++ ds.map Cst.d) h1
  | .meth o m es ds, env, h => bnd (ev P cl o env h) fun x h1 => (match x with
    | .ref p => (match h1.get p with
      | some (.ins c fs) => (match P.mt c m, fs.lookup m with
        | some f, none => bnd (evs P cl es env h1) fun vs h2 => cl f (.ref p :: (vs ++ ds.map Cst.d)) h2
        | _, _ => none)
      | _ => none)
    | _ => none)
  | .new c es, env, h => bnd (evs P cl es env h) fun vs h1 => (match P.mt c "__init__" with
    | some f => bnd (cl f (.ref h1.next :: vs) (h1.new (.ins c []))) fun x h2 => (match x with
      | .non => ok (.ref h1.next) h2
      | _ => none)
    | none => none)
  | .bi b es, env, h => bnd (evs P cl es env h) fun vs h1 => biD b vs h1
  | .bm b o es, env, h => bnd (ev P cl o env h) fun x h1 => if rcv b x h1 = true then bnd (evs P cl es env h1) fun vs h2 => bmD b x vs h2 else none
  | .gix x e, env, h => (match P.glob x with
    | some (.tup xs) => bnd (ev P cl e env h) fun y h1 => gixD (.tup xs) y h1
    | _ => none)
  | .isi a t, env, h => bnd (ev P cl a env h) fun x h1 => liftO ((tyN x h1).map fun n => .bl (isTn n t)) h1
  | .isi2 a t u, env, h => bnd (ev P cl a env h) fun x h1 => liftO ((tyN x h1).map fun n => .bl (isTn n t || isTn n u)) h1
  | .comp elt own g k es tst, env, h => bnd (evs P cl es env h) fun vs h1 => (match walk k vs h1 with
    | some (items, gd) => if g.in_ own = true then compL (fun e1 h2 => ev P cl elt e1 h2) (fun e1 h2 => evT P cl tst e1 h2) g gd h1.next (wipeE env own) items (h1.new (.lst [])) else none
    | none => none)
  | .fst _, _, _ => none
  | .rsl a, env, h => bnd (ev P cl a env h) fun x h1 => (match lstOf x h1 with
    | some xs => ok (.ref h1.next) (h1.new (.lst xs.reverse))
    | none => none)
  | .dictT, _, h => ok (.ref h.next) (h.new (.dit []))
  | .dgtT a es, env, h => bnd (ev P cl a env h) fun x h1 => bnd (evs P cl es env h1) fun ks h2 => (match x with
    | .ref p => if ks.length ≤ lim then (match dgetT h2 p ks with
      | some (some v) => ok v h2
      | _ => none) else none
    | _ => none)
  | .getT a es d, env, h => bnd (ev P cl a env h) fun x h1 => (match x with
    | .ref p => (match dgetT h1 p [] with
      | some _ => bnd (evs P cl es env h1) fun ks h2 => if ks.length ≤ lim then (match dgetT h2 p ks with
        | some (some v) => ok v h2
        | some none => ok d.d h2
        | none => none) else none
      | none => none)
    | _ => none)
  | .lck i e, env, h => (match env[i]? with
    | some (some (.ref a)) => (match h.get a with
      | some o => (match lckO o with
        | some o' => bndN (ev P cl e env (h.put a o')) fun x h2 => if frzO (h2.get a) = true then ok x (h2.put a o) else none
        | none => none)
      | none => none)
    | _ => none)
  | .new0 c, _, h => ok (.ref h.next) (h.new (.ins c []))
  | .isx i c, env, h => (match env[i]? with
    | some (some (.exc k a)) => if P.xk = some (k, a) then liftO ((P.exs k c).map .bl) h else none
    | _ => none)
  | .isxB i c, env, h => (match env[i]? with
    | some (some (.exc k a)) => if P.xk = some (k, a) then liftO ((P.exb k c).map .bl) h else none
    | _ => none)
  | .lrg a, env, h => bnd (ev P cl a env h) fun x h1 => (match x with
    | .int n => if 0 ≤ n ∧ n ≤ 1000000 then ok (.ref h1.next) (h1.new (.lst ((List.range n.toNat).map fun (i : Nat) => .int (i : Int)))) else none
    | _ => none)
  | .iso a c, env, h => bnd (ev P cl a env h) fun x h1 => (match x with
    | .xob k => liftO ((P.exs k c).map .bl) h1
    | _ => none)
  | .isoB a c, env, h => bnd (ev P cl a env h) fun x h1 => (match x with
    | .xob k => liftO ((P.exb k c).map .bl) h1
    | _ => none)
  | .isc a c, env, h => bnd (ev P cl a env h) fun x h1 => (match x with
    | .ref p => (match h1.get p with
      | some (.ins c1 fs) => liftO ((P.sub c1 c).map .bl) h1
      | _ => none)
    | _ => none)
noncomputable def evs (P : Prog) (cl : Cl) : Es → Env → Hm → Res (List D)
  | .nil, _, h => ok [] h
  | .cons e es, env, h => bnd (ev P cl e env h) fun x h1 => bnd (evs P cl es env h1) fun xs h2 => ok (x :: xs) h2
noncomputable def evO (P : Prog) (cl : Cl) : Eo → Env → Hm → Res (Option Int)
  | .none, _, h => ok none h
  | .some e, env, h => bnd (ev P cl e env h) fun x h1 => (match x with
    | .int i => ok (some i) h1
    | _ => none)
noncomputable def evT (P : Prog) (cl : Cl) : T → Env → Hm → Res Bool
  | .yes, _, h => ok true h
  | .cmp o a b, env, h => bnd (ev P cl a env h) fun x h1 => bnd (ev P cl b env h1) fun y h2 => liftO (cmpD o x y h2) h2
  | .chn o o' a b c, env, h => bnd (ev P cl a env h) fun x h1 => bnd (ev P cl b env h1) fun y h2 => (match cmpD o x y h2 with
    | some true => bnd (ev P cl c env h2) fun z h3 => liftO (cmpD o' y z h3) h3
    | some false => ok false h2
    | none => none)
  | .and a b, env, h => bnd (evT P cl a env h) fun k h1 => if k = true then evT P cl b env h1 else ok false h1
  | .or a b, env, h => bnd (evT P cl a env h) fun k h1 => if k = true then ok true h1 else evT P cl b env h1
  | .not a, env, h => bnd (evT P cl a env h) fun k h1 => ok (!k) h1
  | .tru a, env, h => bnd (ev P cl a env h) fun x h1 => liftO (truD x h1) h1
end

/-- an expression's end as a statement's -/
def toS {α : Type} (m : Res α) (env : Env) (f : α → Hm → Out) : Out := match m with
  | none => none
  | some (.error k, h) => some (.ex k, env, h)
  | some (.ok a, h) => f a h
@[simp] theorem toS_none {α : Type} (env : Env) (f : α → Hm → Out) : toS none env f = none := rfl
@[simp] theorem toS_error {α : Type} (k : String) (h : Hm) (env : Env) (f : α → Hm → Out) : toS (some (.error k, h)) env f = some (.ex k, env, h) := rfl
@[simp] theorem toS_ok {α : Type} (a : α) (h : Hm) (env : Env) (f : α → Hm → Out) : toS (some (.ok a, h)) env f = f a h := rfl
def nxt (env : Env) (h : Hm) : Out := some (.nx, env, h)
def thenS (m : Out) (f : Env → Hm → Out) : Out := match m with
  | some (.nx, env, h) => f env h
  | r => r
@[simp] theorem thenS_nx (env : Env) (h : Hm) (f : Env → Hm → Out) : thenS (some (.nx, env, h)) f = f env h := rfl
@[simp] theorem thenS_rt (d : D) (env : Env) (h : Hm) (f : Env → Hm → Out) : thenS (some (.rt d, env, h)) f = some (.rt d, env, h) := rfl
@[simp] theorem thenS_ex (k : String) (env : Env) (h : Hm) (f : Env → Hm → Out) : thenS (some (.ex k, env, h)) f = some (.ex k, env, h) := rfl
@[simp] theorem thenS_none (f : Env → Hm → Out) : thenS none f = none := rfl

open Classical in
noncomputable def forL (fb : Env → Hm → Out) (g : Tg) (gd : List (Nat × O)) : List D → Env → Hm → Out
  | [], env, h => if stays gd h then nxt env h else none
  | x :: xs, env, h => if stays gd h then (match asgT g x env with
    | none => none
    | some env1 => thenS (fb env1 h) fun env2 h2 => forL fb g gd xs env2 h2) else none
def whl (ft : Env → Hm → Res Bool) (fb : Env → Hm → Out) : Nat → Env → Hm → Out
  | 0, _, _ => none
  | n + 1, env, h => toS (ft env h) env fun b h1 => if b = true then thenS (fb env h1) fun env2 h2 => whl ft fb n env2 h2 else nxt env h1
def setF (fs : List (String × D)) (f : String) (v : D) : List (String × D) := match fs with
  | [] => [(f, v)]
  | (g, x) :: r => if g = f then (g, v) :: r else (g, x) :: setF r f v

/-- what a suite leaves: the name of the error is empty -/
def emptied (i : Nat) (m : Out) : Out := match m with
  | some (.nx, env, h) => some (.nx, env.set i none, h)
  | some (.rt d, env, h) => some (.rt d, env.set i none, h)
  | _ => none
open Classical in
/-- one answer, whatever the error's place is -/
noncomputable def oneA (m : Nat → Out) : Out := if h : ∃ r, ∀ a, m a = some r then some (choose h) else none
theorem oneA_ok {m : Nat → Out} {r : Fl × Env × Hm} (h : ∀ a, m a = some r) : oneA m = some r := by
  have hh : ∃ r, ∀ a, m a = some r := ⟨r, h⟩
  unfold oneA
  rw [dif_pos hh]
  exact ((Classical.choose_spec hh) 0).symm.trans (h 0)
theorem oneA_of {m : Nat → Out} {r : Fl × Env × Hm} (e : oneA m = some r) (a : Nat) : m a = some r := by
  unfold oneA at e
  split at e
  · rename_i hh
    rw [← e]
    exact Classical.choose_spec hh a
  · cases e
/-- op= of two whole numbers -/
def augD (o : Bop) (x y : D) : Option D := match o, x, y with
  | .add, .int i, .int j => some (.int (i + j))
  | .sub, .int i, .int j => some (.int (i - j))
  | _, _, _ => none
noncomputable def ex (P : Prog) (cl : Cl) : S → Env → Hm → Out
  | .skip, env, h => nxt env h
  | .seq a b, env, h => thenS (ex P cl a env h) fun env1 h1 => ex P cl b env1 h1
  | .asg i e, env, h => toS (ev P cl e env h) env fun x h1 => nxt (env.set i (some x)) h1
  | .unp is e, env, h => toS (ev P cl e env h) env fun x h1 => (match seqOf x h1 with
    | some xs => (match setN env is xs with
      | some env1 => nxt env1 h1
      | none => none)
    | none => none)
  | .sfld o f e, env, h => toS (ev P cl e env h) env fun x h1 => toS (ev P cl o env h1) env fun y h2 => (match y with
    | .ref p => (match h2.get p with
      | some (.ins c fs) => if P.fld c f = true ∧ fs.length < 1000 then nxt env (h2.put p (.ins c (setF fs f x))) else none
      | _ => none)
    | _ => none)
  | .sidx o i e, env, h => toS (ev P cl e env h) env fun x h1 => toS (ev P cl o env h1) env fun y h2 => toS (ev P cl i env h2) env fun z h3 => (match y, z with
    | .ref p, .int k => (match h3.get p with
      | some (.lst xs) => (match ixD xs.length k with
        | some j => nxt env (h3.put p (.lst (xs.set j x)))
        | none => none)
      | _ => none)
    | _, _ => none)
  | .dput o i e, env, h => toS (ev P cl e env h) env fun x h1 => toS (ev P cl o env h1) env fun y h2 => toS (ev P cl i env h2) env fun z h3 => (match y with
    | .ref p => (match dput h3 p z x with
      | some h4 => nxt env h4
      | none => none)
    | _ => none)
  | .aug i o e, env, h => (match env[i]? with
    | some (some x) => toS (ev P cl e env h) env fun y h1 => (match augD o x y with
      | some z => nxt (env.set i (some z)) h1
      | none => none)
    | _ => none)
  | .augf o f op e, env, h => toS (ev P cl o env h) env fun y h1 => (match y with
    | .ref p => (match h1.get p with
      | some (.ins c fs) => if P.fld c f = true then (match fs.lookup f with
        | some x => toS (ev P cl e env h1) env fun v h2 => (match augD op x v with
          | some z => (match h2.get p with
            | some (.ins c' fs') => if c' = c ∧ fs'.length < 1000 then nxt env (h2.put p (.ins c (setF fs' f z))) else none
            | _ => none)
          | none => none)
        | none => none) else none
      | _ => none)
    | _ => none)
  | .augi o i op e, env, h => toS (ev P cl o env h) env fun y h1 => toS (ev P cl i env h1) env fun z h2 => (match y, z with
    | .ref p, .int k => (match h2.get p with
      | some (.lst xs) => if 0 ≤ k then (match xs[k.toNat]? with
        | some x => toS (ev P cl e env h2) env fun v h3 => (match augD op x v, h3.get p with
          | some w, some (.lst ys) => if k.toNat < ys.length then nxt env (h3.put p (.lst (ys.set k.toNat w))) else none
          | _, _ => none)
        | none => none) else none
      | _ => none)
    | _, _ => none)
  | .ite c a b, env, h => toS (evT P cl c env h) env fun k h1 => if k = true then ex P cl a env h1 else ex P cl b env h1
  | .for_ g k es body, env, h => toS (evs P cl es env h) env fun vs h1 => (match walk k vs h1 with
    | some (items, gd) => forL (fun e1 h2 => ex P cl body e1 h2) g gd items env h1
    | none => none)
  | .wh c body, env, h => whl (fun e1 h1 => evT P cl c e1 h1) (fun e1 h1 => ex P cl body e1 h1) P.lf env h
  | .ret e, env, h => toS (ev P cl e env h) env fun x h1 => some (.rt x, env, h1)
  | .drop e, env, h => toS (ev P cl e env h) env fun _ h1 => nxt env h1
  | .rai c, env, h => some (.ex c, env, h)
  | .try_ b c x s, env, h => (match ex P cl b env h with
    | some (.ex k, env2, h2) => (match P.exm k c with
      | some true => (match x with
        | none => (match ex P cl s env2 h2 with
          | some (.ex _, _, _) => none
          | r => r)
        | some i => oneA fun a => emptied i (ex { P with xk := some (k, a) } cl s (env2.set i (some (.exc k a))) h2))
      | some false => some (.ex k, env2, h2)
      | none => none)
    | r => r)
  | .tryK b c i j, env, h => (match ex P cl b env h with
    | some (.ex k, env2, h2) => if P.exm k c = some true ∧ i < env2.length ∧ i ≠ j then nxt ((env2.set j (some (.xob k))).set i none) h2 else none
    | r => r)
  | .dputT o es e, env, h => toS (ev P cl e env h) env fun x h1 => toS (ev P cl o env h1) env fun y h2 => toS (evs P cl es env h2) env fun ks h3 => (match y with
    | .ref p => if ks.length ≤ lim then (match dputT h3 p ks x with
      | some h4 => nxt env h4
      | none => none) else none
    | _ => none)
  | .par i j es, env, h => toS (evs P cl es env h) env fun vs h1 => (match vs with
    | [x, y] => nxt ((env.set i (some x)).set j (some y)) h1
    | _ => none)
  | .lck i s, env, h => (match env[i]? with
    | some (some (.ref a)) => (match h.get a with
      | some o => (match lckO o with
        | some o' => (match ex P cl s env (h.put a o') with
          | some (.nx, env2, h2) => if frzO (h2.get a) = true then some (.nx, env2, h2.put a o) else none
          | some (.rt d, env2, h2) => if frzO (h2.get a) = true then some (.rt d, env2, h2.put a o) else none
          | _ => none)
        | none => none)
      | none => none)
    | _ => none)

def start (n : Nat) (ds : List D) : Env := ds.map some ++ List.replicate (n - ds.length) none
def endF (o : Out) : Res D := match o with
  | none => none
  | some (.nx, _, h) => some (.ok .non, h)
  | some (.rt d, _, h) => some (.ok d, h)
  | some (.ex k, _, h) => some (.error k, h)
noncomputable def callF (P : Prog) : Nat → Cl
  | 0 => fun _ _ _ => none
  | n + 1 => fun f ds h => match P.fn f with
    | none => none
    | some F => if ds.length = F.np then endF (ex P (callF P n) F.body (start F.ns ds) h) else none
end Z

set_option maxRecDepth 100000
/-! ZD: how the layer's heap bears the model's. -/
namespace Z
open PySem L2

abbrev Rho := Nat → Addr
def rn (r : Rho) (n : Nat) (p : Addr) : Rho := fun a => if a = n then p else r a
def ca (K : PySem.W.Frag) (c : String) : Addr := He.ga K (Str.ofString c)

/-- what is known of a thing of which nothing is known -/
abbrev xT : HO := .ext fun _ => True
mutual
inductive RepV (K : PySem.W.Frag) (r : Rho) (n : Nat) (H : Hp) : V → D → Prop
  | non : RepV K r n H .non .non
  | bl (b : Bool) : RepV K r n H (.bl b) (.bl b)
  | int (i : Int) : RepV K r n H (.int i) (.int i)
  | str (s : Str) : RepV K r n H (.str s) (.str s)
  | tup {a : Addr} {vs : List V} {ds : List D} (h : SqT K H a vs) (q : RepL K r n H vs ds) : RepV K r n H (.ref a) (.tup ds)
  | ref {a : Nat} (h : a < n) : RepV K r n H (.ref (r a)) (.ref a)
  | exc (k : String) (a : Addr) : RepV K r n H (.ref a) (.exc k a)
  | xob (k : String) {a : Addr} {oe : Obj} (h : H a = some (.frz oe xT)) (z : Zc (.ref (ca K k)) none oe) (f : ∃ vs, oe.data = .fields vs) : RepV K r n H (.ref a) (.xob k)
inductive RepL (K : PySem.W.Frag) (r : Rho) (n : Nat) (H : Hp) : List V → List D → Prop
  | nil : RepL K r n H [] []
  | cons {v : V} {vs : List V} {d : D} {ds : List D} : RepV K r n H v d → RepL K r n H vs ds → RepL K r n H (v :: vs) (d :: ds)
end

/-- behind: more places, the old ones as they were, tuples stay -/
structure Ext0 (K : PySem.W.Frag) (r : Rho) (n : Nat) (H : Hp) (r' : Rho) (n' : Nat) (H' : Hp) : Prop where
  le : n ≤ n'
  at_ : ∀ a, a < n → r' a = r a
  tup : ∀ a vs, SqT K H a vs → SqT K H' a vs
  xob : ∀ a ob, H a = some (.frz ob xT) → H' a = some (.frz ob xT)
/-- .. and what is locked stays -/
structure Ext (K : PySem.W.Frag) (r : Rho) (n : Nat) (H : Hp) (r' : Rho) (n' : Nat) (H' : Hp) : Prop extends Ext0 K r n H r' n' H' where
  frz : ∀ a ob u, H a = some (.frz ob u) → H' a = some (.frz ob u)
section
variable {K : PySem.W.Frag} {r r' r2 : Rho} {n n' n2 : Nat} {H H' H2 : Hp}
theorem Ext.refl : Ext K r n H r n H := ⟨⟨Nat.le_refl _, fun _ _ => rfl, fun _ _ h => h, fun _ _ h => h⟩, fun _ _ _ h => h⟩
theorem Ext.trans (a : Ext K r n H r' n' H') (b : Ext K r' n' H' r2 n2 H2) : Ext K r n H r2 n2 H2 :=
  ⟨⟨Nat.le_trans a.le b.le, fun x h => (b.at_ x (Nat.lt_of_lt_of_le h a.le)).trans (a.at_ x h), fun x vs h => b.tup x vs (a.tup x vs h), fun x ob h => b.xob x ob (a.xob x ob h)⟩, fun x ob u h => b.frz x ob u (a.frz x ob u h)⟩
mutual
theorem RepV.ext0 (e : Ext0 K r n H r' n' H') : ∀ {d : D} {v : V}, RepV K r n H v d → RepV K r' n' H' v d
  | _, _, .non => .non
  | _, _, .bl b => .bl b
  | _, _, .int b => .int b
  | _, _, .str b => .str b
  | _, _, .tup h q => .tup (e.tup _ _ h) (RepL.ext0 e q)
  | _, _, .ref (a := a) h => by
    rw [← e.at_ a h]
    exact .ref (Nat.lt_of_lt_of_le h e.le)
  | _, _, .exc k a => .exc k a
  | _, _, .xob k h z f => .xob k (e.xob _ _ h) z f
theorem RepL.ext0 (e : Ext0 K r n H r' n' H') : ∀ {ds : List D} {vs : List V}, RepL K r n H vs ds → RepL K r' n' H' vs ds
  | _, _, .nil => .nil
  | _, _, .cons a b => .cons (RepV.ext0 e a) (RepL.ext0 e b)
end
theorem RepV.ext (e : Ext K r n H r' n' H') {d : D} {v : V} (q : RepV K r n H v d) : RepV K r' n' H' v d := RepV.ext0 e.toExt0 q
theorem RepL.ext (e : Ext K r n H r' n' H') {ds : List D} {vs : List V} (q : RepL K r n H vs ds) : RepL K r' n' H' vs ds := RepL.ext0 e.toExt0 q
theorem RepL.len : ∀ {ds : List D} {vs : List V}, RepL K r n H vs ds → vs.length = ds.length
  | _, _, .nil => rfl
  | _, _, .cons a b => congrArg Nat.succ (RepL.len b)
theorem RepL.get : ∀ {ds : List D} {vs : List V} {i : Nat} {d : D}, RepL K r n H vs ds → ds[i]? = some d → ∃ v, vs[i]? = some v ∧ RepV K r n H v d
  | _, _, _, _, .nil, h => by simp at h
  | _, _, 0, _, .cons a b, h => by simp at h; subst h; exact ⟨_, rfl, a⟩
  | _, _, i + 1, _, .cons a b, h => by
    obtain ⟨v, e, q⟩ := RepL.get (i := i) b (by simpa using h)
    exact ⟨v, by simpa using e, q⟩
theorem RepL.app : ∀ {ds es : List D} {vs us : List V}, RepL K r n H vs ds → RepL K r n H us es → RepL K r n H (vs ++ us) (ds ++ es)
  | _, _, _, _, .nil, q => q
  | _, _, _, _, .cons a b, q => .cons a (RepL.app b q)
theorem RepL.set {v : V} {d : D} (q : RepV K r n H v d) : ∀ {ds : List D} {vs : List V} (i : Nat), RepL K r n H vs ds → RepL K r n H (vs.set i v) (ds.set i d)
  | _, _, _, .nil => .nil
  | _, _, 0, .cons a b => .cons q b
  | _, _, i + 1, .cons a b => .cons a (RepL.set q i b)
theorem RepL.take : ∀ {ds : List D} {vs : List V} (i : Nat), RepL K r n H vs ds → RepL K r n H (vs.take i) (ds.take i)
  | _, _, _, .nil => by simp; exact .nil
  | _, _, 0, .cons a b => .nil
  | _, _, i + 1, .cons a b => .cons a (RepL.take i b)
theorem RepL.drop : ∀ {ds : List D} {vs : List V} (i : Nat), RepL K r n H vs ds → RepL K r n H (vs.drop i) (ds.drop i)
  | _, _, _, .nil => by simp; exact .nil
  | _, _, 0, .cons a b => .cons a b
  | _, _, i + 1, .cons a b => RepL.drop i b
theorem RepL.rep {ds : List D} {vs : List V} (q : RepL K r n H vs ds) : ∀ k : Nat, RepL K r n H (List.replicate k vs).flatten (List.replicate k ds).flatten
  | 0 => .nil
  | k + 1 => by
    rw [List.replicate_succ, List.replicate_succ, List.flatten_cons, List.flatten_cons]
    exact q.app (RepL.rep q k)
theorem RepL.rev : ∀ {ds : List D} {vs : List V}, RepL K r n H vs ds → RepL K r n H vs.reverse ds.reverse
  | _, _, .nil => .nil
  | _, _, .cons a b => by
    rw [List.reverse_cons, List.reverse_cons]
    exact (RepL.rev b).app (.cons a .nil)
theorem RepL.append1 {ds : List D} {vs : List V} {v : V} {d : D} (q : RepL K r n H vs ds) (a : RepV K r n H v d) : RepL K r n H (vs ++ [v]) (ds ++ [d]) := q.app (.cons a .nil)
theorem RepL.ints : ∀ {ds : List D} {vs : List V} {ns : List Int}, RepL K r n H vs ds → ints? ds = some ns → vs = ns.map V.int
  | _, _, _, .nil, e => by cases e; rfl
  | _, _, _, .cons (.int i) b, e => by
    unfold ints? at e
    obtain ⟨ms, e1, rfl⟩ := Option.map_eq_some_iff.mp e
    rw [RepL.ints b e1]
    rfl
  | _, _, _, .cons .non b, e => by cases e
  | _, _, _, .cons (.bl _) b, e => by cases e
  | _, _, _, .cons (.str _) b, e => by cases e
  | _, _, _, .cons (.tup _ _) b, e => by cases e
  | _, _, _, .cons (.ref _) b, e => by cases e
theorem RepL.bls : ∀ {ds : List D} {vs : List V} {ns : List Bool}, RepL K r n H vs ds → bls? ds = some ns → vs = ns.map V.bl
  | _, _, _, .nil, e => by cases e; rfl
  | _, _, _, .cons (.bl i) b, e => by
    unfold bls? at e
    obtain ⟨ms, e1, rfl⟩ := Option.map_eq_some_iff.mp e
    rw [RepL.bls b e1]
    rfl
  | _, _, _, .cons .non b, e => by cases e
  | _, _, _, .cons (.int _) b, e => by cases e
  | _, _, _, .cons (.str _) b, e => by cases e
  | _, _, _, .cons (.tup _ _) b, e => by cases e
  | _, _, _, .cons (.ref _) b, e => by cases e
theorem RepL.strs : ∀ {ds : List D} {vs : List V} {ns : List Str}, RepL K r n H vs ds → strs? ds = some ns → vs = ns.map V.str
  | _, _, _, .nil, e => by cases e; rfl
  | _, _, _, .cons (.str i) b, e => by
    unfold strs? at e
    obtain ⟨ms, e1, rfl⟩ := Option.map_eq_some_iff.mp e
    rw [RepL.strs b e1]
    rfl
  | _, _, _, .cons .non b, e => by cases e
  | _, _, _, .cons (.int _) b, e => by cases e
  | _, _, _, .cons (.bl _) b, e => by cases e
  | _, _, _, .cons (.tup _ _) b, e => by cases e
  | _, _, _, .cons (.ref _) b, e => by cases e
theorem repInts : ∀ ns : List Int, RepL K r n H (ns.map V.int) (ns.map D.int)
  | [] => .nil
  | i :: ns => .cons (.int i) (repInts ns)
theorem repStrs : ∀ ns : List Str, RepL K r n H (ns.map V.str) (ns.map D.str)
  | [] => .nil
  | i :: ns => .cons (.str i) (repStrs ns)
end

/-! ### objects -/
/-- a dict's pairs -/
def RepK {κ : Type} (K : PySem.W.Frag) (r : Rho) (n : Nat) (H : Hp) (ws : List (κ × V)) (kvs : List (κ × D)) : Prop := ws.map (·.1) = kvs.map (·.1) ∧ RepL K r n H (ws.map (·.2)) (kvs.map (·.2))
/-- an instance's attributes -/
def RepF (K : PySem.W.Frag) (r : Rho) (n : Nat) (H : Hp) (ws : List (Str × V)) (fs : List (String × D)) : Prop := ws.map (·.1) = fs.map (fun f => Str.ofString f.1) ∧ RepL K r n H (ws.map (·.2)) (fs.map (·.2))
/-- a list that is never written -/
def SqF (K : PySem.W.Frag) (H : Hp) (a : Addr) (xs : List V) : Prop :=
  (∃ ob, H a = some (.frz ob (.lst xs))) ∨
    ∃ (o : Obj) (its : Array Value) (n : Nat), K.lookup a = some o ∧ o.cls = .type "list" ∧ o.dict = none ∧ o.data = .seq its n ∧ its.size ≤ sizeLine ∧ Vals xs its.toList
theorem SqF.l {K : PySem.W.Frag} {H : Hp} {a : Addr} {xs : List V} (h : SqF K H a xs) : SqL K H a xs := by
  rcases h with h | h
  · exact .inl (.inr h)
  · exact .inr h
def RepO (K : PySem.W.Frag) (r : Rho) (n : Nat) (H : Hp) (p : Addr) : O → Prop
  | .lst xs => ∃ vs, H p = some (.lst vs) ∧ RepL K r n H vs xs
  | .fz xs => ∃ vs, SqF K H p vs ∧ RepL K r n H vs xs
  | .dic kvs => ∃ ws, H p = some (.dK ws) ∧ RepK K r n H ws kvs
  | .dit kvs => ∃ ws, H p = some (.dT ws) ∧ RepK K r n H ws kvs
  | .ins c fs => ∃ dx ws, H p = some (.ins (ca K c) dx ws) ∧ RepF K r n H ws fs
  | .fzd kvs => ∃ ob ws, H p = some (.frz ob (.dK ws)) ∧ RepK K r n H ws kvs
  | .fzt kvs => ∃ ob ws, H p = some (.frz ob (.dT ws)) ∧ RepK K r n H ws kvs
/-- objects that may be written -/
def mutO : O → Bool
  | .fz _ => false
  | .fzd _ => false
  | .fzt _ => false
  | _ => true
/-- objects that have a cell of their own -/
def ownO : O → Bool
  | .fz _ => false
  | _ => true
theorem own_of {o : O} (m : mutO o = true) : ownO o = true := by cases o <;> first | rfl | cases m
/-- what stands for such in the layer -/
def mutH : HO → Bool
  | .lst _ => true
  | .dK _ => true
  | .dT _ => true
  | .ins _ _ _ => true
  | _ => false
structure Sim (K : PySem.W.Frag) (r : Rho) (h : Hm) (H : Hp) : Prop where
  obj : ∀ a o, h.get a = some o → a < h.next ∧ RepO K r h.next H (r a) o
  inj : ∀ a b oa ob, h.get a = some oa → h.get b = some ob → ownO oa = true → ownO ob = true → r a = r b → a = b
section
variable {K : PySem.W.Frag} {r r' : Rho} {n n' : Nat} {h h' : Hm} {H H' : Hp} {p : Addr} {o : O}
theorem RepO.mut (q : RepO K r n H p o) (m : mutO o = true) : ∃ u, H p = some u ∧ mutH u = true := by
  cases o with
  | lst xs => obtain ⟨vs, e, _⟩ := q; exact ⟨_, e, rfl⟩
  | fz xs => cases m
  | dic kvs => obtain ⟨vs, e, _⟩ := q; exact ⟨_, e, rfl⟩
  | dit kvs => obtain ⟨vs, e, _⟩ := q; exact ⟨_, e, rfl⟩
  | ins c fs => obtain ⟨dx, vs, e, _⟩ := q; exact ⟨_, e, rfl⟩
  | fzd kvs => cases m
  | fzt kvs => cases m
theorem RepO.own (q : RepO K r n H p o) (m : ownO o = true) : ∃ u, H p = some u := by
  cases o with
  | lst xs => obtain ⟨vs, e, _⟩ := q; exact ⟨_, e⟩
  | fz xs => cases m
  | dic kvs => obtain ⟨vs, e, _⟩ := q; exact ⟨_, e⟩
  | dit kvs => obtain ⟨vs, e, _⟩ := q; exact ⟨_, e⟩
  | ins c fs => obtain ⟨dx, vs, e, _⟩ := q; exact ⟨_, e⟩
  | fzd kvs => obtain ⟨dx, vs, e, _⟩ := q; exact ⟨_, e⟩
  | fzt kvs => obtain ⟨dx, vs, e, _⟩ := q; exact ⟨_, e⟩
theorem RepK.ext0 {κ : Type} {ws : List (κ × V)} {kvs : List (κ × D)} (e : Ext0 K r n H r' n' H') (q : RepK K r n H ws kvs) : RepK K r' n' H' ws kvs := ⟨q.1, q.2.ext0 e⟩
theorem RepF.ext0 {ws : List (Str × V)} {kvs : List (String × D)} (e : Ext0 K r n H r' n' H') (q : RepF K r n H ws kvs) : RepF K r' n' H' ws kvs := ⟨q.1, q.2.ext0 e⟩
theorem RepK.ext {κ : Type} {ws : List (κ × V)} {kvs : List (κ × D)} (e : Ext K r n H r' n' H') (q : RepK K r n H ws kvs) : RepK K r' n' H' ws kvs := ⟨q.1, q.2.ext e⟩
theorem RepF.ext {ws : List (Str × V)} {kvs : List (String × D)} (e : Ext K r n H r' n' H') (q : RepF K r n H ws kvs) : RepF K r' n' H' ws kvs := ⟨q.1, q.2.ext e⟩
/-- kept by what keeps its own cell -/
theorem RepO.keep (e : Ext0 K r n H r' n' H') (q : RepO K r n H p o) (k : ownO o = true → H' p = H p) (kf : ∀ vs, SqF K H p vs → SqF K H' p vs) : RepO K r' n' H' p o := by
  cases o with
  | lst xs => obtain ⟨vs, a, b⟩ := q; exact ⟨vs, (k rfl).trans a, b.ext0 e⟩
  | fz xs =>
    obtain ⟨vs, a, b⟩ := q
    exact ⟨vs, kf vs a, b.ext0 e⟩
  | dic kvs => obtain ⟨vs, a, b⟩ := q; exact ⟨vs, (k rfl).trans a, RepK.ext0 e b⟩
  | dit kvs => obtain ⟨vs, a, b⟩ := q; exact ⟨vs, (k rfl).trans a, RepK.ext0 e b⟩
  | ins c fs => obtain ⟨dx, vs, a, b⟩ := q; exact ⟨dx, vs, (k rfl).trans a, RepF.ext0 e b⟩
  | fzd kvs => obtain ⟨dx, vs, a, b⟩ := q; exact ⟨dx, vs, (k rfl).trans a, RepK.ext0 e b⟩
  | fzt kvs => obtain ⟨dx, vs, a, b⟩ := q; exact ⟨dx, vs, (k rfl).trans a, RepK.ext0 e b⟩
/-- a cell that may be laid or written -/
def Free (H : Hp) (q : Addr) : Prop := H q = none ∨ ∃ v, H q = some v ∧ mutH v = true
theorem Free.rd {q a : Addr} {u : HO} {x : HO} (f : Free H q) (h : Rd H a x) (nx : mutH x = false) : Rd (upd H q u) a x := by
  have ne : a ≠ q := by
    rintro rfl
    rcases f with f | ⟨v, f, m⟩
    · rcases h with h | ⟨ob, h⟩ <;> rw [f] at h <;> cases h
    · rcases h with h | ⟨ob, h⟩
      · rw [f] at h; cases h; rw [m] at nx; cases nx
      · rw [f] at h; cases h; cases m
  rcases h with h | ⟨ob, h⟩
  · exact .inl (by rw [upd_ne ne]; exact h)
  · exact .inr ⟨ob, by rw [upd_ne ne]; exact h⟩
theorem Free.sqt {q a : Addr} {u : HO} {xs : List V} (f : Free H q) (h : SqT K H a xs) : SqT K (upd H q u) a xs := by
  rcases h with h | h
  · exact .inl (f.rd h rfl)
  · exact .inr h
theorem Free.sqf {q a : Addr} {u : HO} {xs : List V} (f : Free H q) (h : SqF K H a xs) : SqF K (upd H q u) a xs := by
  rcases h with ⟨ob, h⟩ | h
  · have ne : a ≠ q := by
      rintro rfl
      rcases f with f | ⟨v, f, m⟩
      · rw [f] at h; cases h
      · rw [f] at h; cases h; cases m
    exact .inl ⟨ob, by rw [upd_ne ne]; exact h⟩
  · exact .inr h
theorem Free.frz {q a : Addr} {ob : Obj} {u x : HO} (f : Free H q) (h : H a = some (.frz ob x)) : upd H q u a = some (.frz ob x) := by
  have ne : a ≠ q := by
    rintro rfl
    rcases f with f | ⟨v, f, m⟩
    · rw [f] at h; cases h
    · rw [f] at h; cases h; cases m
  rw [upd_ne ne]; exact h
theorem Free.ext {q : Addr} {u : HO} (f : Free H q) : Ext K r n H r n (upd H q u) := ⟨⟨Nat.le_refl _, fun _ _ => rfl, fun _ _ h => f.sqt h, fun _ _ h => f.frz h⟩, fun _ _ _ h => f.frz h⟩
theorem Free.extN {q : Addr} {u : HO} (f : Free H q) : Ext K r n H (rn r n q) (n + 1) (upd H q u) :=
  ⟨⟨Nat.le_succ _, fun a ha => by unfold rn; rw [if_neg (by omega)], fun _ _ h => f.sqt h, fun _ _ h => f.frz h⟩, fun _ _ _ h => f.frz h⟩
theorem rn_at {q : Addr} : rn r n q n = q := by unfold rn; rw [if_pos rfl]
theorem rn_old {q : Addr} {a : Nat} (ha : a < n) : rn r n q a = r a := by unfold rn; rw [if_neg (by omega)]
theorem Sim.ne (S : Sim K r h H) {a : Nat} {oa : O} {q : Addr} (ha : h.get a = some oa) (m : ownO oa = true) (hq : H q = none) : r a ≠ q := by
  obtain ⟨u, e⟩ := (S.obj a oa ha).2.own m
  rintro rfl
  rw [hq] at e
  cases e
/-- a thing that the model does not see is laid -/
theorem Sim.grow (S : Sim K r h H) {q : Addr} {u : HO} (hq : H q = none) : Sim K r h (upd H q u) := by
  refine ⟨fun a o ha => ⟨(S.obj a o ha).1, ?_⟩, S.inj⟩
  exact RepO.keep (Free.ext (.inl hq)).toExt0 (S.obj a o ha).2 (fun m => upd_ne (S.ne ha m hq)) fun vs h => Free.sqf (.inl hq) h
/-- a new object -/
theorem Sim.new (S : Sim K r h H) {q : Addr} {u : HO} {o : O} (hq : H q = none) (m : mutO o = true) (w : RepO K (rn r h.next q) (h.next + 1) (upd H q u) q o) : Sim K (rn r h.next q) (h.new o) (upd H q u) := by
  have old : ∀ a oa, h.get a = some oa → a < h.next := fun a oa ha => (S.obj a oa ha).1
  refine ⟨fun a oa ha => ?_, fun a b oa ob ha hb ma mb e => ?_⟩
  · rw [new_get] at ha
    by_cases ea : a = h.next
    · subst ea
      rw [if_pos rfl] at ha
      cases ha
      rw [rn_at]
      exact ⟨Nat.lt_succ_self _, w⟩
    · rw [if_neg ea] at ha
      have la := old a oa ha
      rw [rn_old la]
      exact ⟨Nat.lt_succ_of_lt la, RepO.keep (Free.extN (.inl hq)).toExt0 (S.obj a oa ha).2 (fun m => upd_ne (S.ne ha m hq)) fun vs h => Free.sqf (.inl hq) h⟩
  · rw [new_get] at ha hb
    by_cases ea : a = h.next
    · by_cases eb : b = h.next
      · rw [ea, eb]
      · rw [if_neg eb] at hb
        subst ea
        rw [rn_at, rn_old (old b ob hb)] at e
        exact absurd e.symm (S.ne hb mb hq)
    · rw [if_neg ea] at ha
      by_cases eb : b = h.next
      · subst eb
        rw [rn_at, rn_old (old a oa ha)] at e
        exact absurd e (S.ne ha ma hq)
      · rw [if_neg eb] at hb
        rw [rn_old (old a oa ha), rn_old (old b ob hb)] at e
        exact S.inj a b oa ob ha hb ma mb e
theorem Sim.free (S : Sim K r h H) {a : Nat} {o0 : O} (ha : h.get a = some o0) (m0 : mutO o0 = true) : Free H (r a) := .inr ((S.obj a o0 ha).2.mut m0)
/-- an object is written -/
theorem Sim.put (S : Sim K r h H) {a : Nat} {o0 o : O} {u : HO} (ha : h.get a = some o0) (m0 : mutO o0 = true) (m : ownO o = true) (w : RepO K r h.next (upd H (r a) u) (r a) o) : Sim K r (h.put a o) (upd H (r a) u) := by
  have f := S.free ha m0
  have m0 := own_of m0
  refine ⟨fun b ob hb => ?_, fun b c ob oc hb hc mb mc e => ?_⟩
  · rw [put_get] at hb
    by_cases eb : b = a
    · subst eb
      rw [if_pos rfl] at hb
      cases hb
      exact ⟨(S.obj b o0 ha).1, w⟩
    · rw [if_neg eb] at hb
      exact ⟨(S.obj b ob hb).1, RepO.keep f.ext.toExt0 (S.obj b ob hb).2 (fun mb => upd_ne fun e => eb (S.inj b a ob o0 hb ha mb m0 e)) fun vs h => f.sqf h⟩
  · rw [put_get] at hb hc
    by_cases eb : b = a
    · by_cases ec : c = a
      · rw [eb, ec]
      · rw [if_neg ec] at hc
        subst eb
        exact S.inj b c o0 oc ha hc m0 mc e
    · rw [if_neg eb] at hb
      by_cases ec : c = a
      · subst ec
        exact S.inj b c ob o0 hb ha mb m0 e
      · rw [if_neg ec] at hc
        exact S.inj b c ob oc hb hc mb mc e
end

/-! ### what is locked -/
section
variable {K : PySem.W.Frag} {r r' r2 : Rho} {n n' n2 : Nat} {h h2 : Hm} {H H2 : Hp} {p d : Addr} {o o1 : O} {ob : Obj} {u : HO}
/-- what such a thing is in the layer -/
def dctH : HO → Bool
  | .dK _ => true
  | .dT _ => true
  | _ => false
theorem dct_mut (m : dctH u = true) : mutH u = true ∧ Mut (some u) := by cases u <;> first | exact ⟨rfl, trivial⟩ | cases m
/-- a locked thing's cell may be opened -/
theorem open0 (hd : H d = some (.frz ob u)) (m : dctH u = true) : Ext0 K r n H r n (upd H d u) := by
  refine ⟨Nat.le_refl _, fun _ _ => rfl, fun a vs h => ?_, fun a ob' h => by
    have ne : a ≠ d := by rintro rfl; rw [hd] at h; cases h; cases m
    rw [upd_ne ne]; exact h⟩
  rcases h with h | h
  · have ne : a ≠ d := by
      rintro rfl
      rcases h with h | ⟨o', h⟩
      · rw [hd] at h; cases h
      · rw [hd] at h; cases h; cases m
    refine .inl ?_
    rcases h with h | ⟨o', h⟩
    · exact .inl (by rw [upd_ne ne]; exact h)
    · exact .inr ⟨o', by rw [upd_ne ne]; exact h⟩
  · exact .inr h
/-- .. once what ran within has ended -/
theorem Ext.open (x : Ext K r n (upd H d (.frz ob u)) r2 n2 H2) (hd : H d = some u) (m : dctH u = true) : Ext K r n H r2 n2 (upd H2 d u) := by
  have f : Free H d := .inr ⟨u, hd, (dct_mut m).1⟩
  have h2 : H2 d = some (.frz ob u) := x.frz d ob u upd_same
  refine ⟨⟨x.le, x.at_, fun a vs h => (open0 (r := r) (n := n) h2 m).tup a vs (x.tup a vs (f.sqt h)), fun a ob' h => (open0 (K := K) (r := r) (n := n) h2 m).xob a ob' (x.xob a ob' (f.frz h))⟩, fun a o' v h => ?_⟩
  have ne : a ≠ d := by
    rintro rfl
    rw [hd] at h; cases h; cases m
  rw [upd_ne ne]
  exact x.frz a o' v (by rw [upd_ne ne]; exact h)
theorem Sim.open (S : Sim K r h H) {a : Nat} (ha : h.get a = some o1) (f1 : frzO (some o1) = true) (m : ownO o = true) (hd : H (r a) = some (.frz ob u)) (mu : dctH u = true) (w : RepO K r h.next (upd H (r a) u) (r a) o) : Sim K r (h.put a o) (upd H (r a) u) := by
  have m0 : ownO o1 = true := by cases o1 <;> first | rfl | cases f1
  refine ⟨fun b ob2 hb => ?_, fun b c ob2 oc hb hc mb mc e => ?_⟩
  · rw [put_get] at hb
    by_cases eb : b = a
    · subst eb
      rw [if_pos rfl] at hb
      cases hb
      exact ⟨(S.obj b o1 ha).1, w⟩
    · rw [if_neg eb] at hb
      refine ⟨(S.obj b ob2 hb).1, RepO.keep (open0 hd mu) (S.obj b ob2 hb).2 (fun mb => upd_ne fun e => eb (S.inj b a ob2 o1 hb ha mb m0 e)) fun vs h => ?_⟩
      rcases h with ⟨o', h⟩ | h
      · have ne : r b ≠ r a := by
          intro e
          rw [e, hd] at h; cases h; cases mu
        exact .inl ⟨o', by rw [upd_ne ne]; exact h⟩
      · exact .inr h
  · rw [put_get] at hb hc
    by_cases eb : b = a
    · by_cases ec : c = a
      · rw [eb, ec]
      · rw [if_neg ec] at hc
        subst eb
        exact S.inj b c o1 oc ha hc m0 mc e
    · rw [if_neg eb] at hb
      by_cases ec : c = a
      · subst ec
        exact S.inj b c ob2 o1 hb ha mb m0 e
      · rw [if_neg ec] at hc
        exact S.inj b c ob2 oc hb hc mb mc e
/-- locking: what stands there; while it is locked; how it opens -/
theorem Sim.lock (S : Sim K r h H) {a : Nat} {o' : O} (ha : h.get a = some o) (e : lckO o = some o') : ∃ u, H (r a) = some u ∧ dctH u = true ∧ ∀ ob, Sim K r (h.put a o') (upd H (r a) (.frz ob u)) ∧
    ∀ r2 h2 H2, Sim K r2 h2 H2 → Ext K r h.next (upd H (r a) (.frz ob u)) r2 h2.next H2 → frzO (h2.get a) = true →
      r2 a = r a ∧ H2 (r a) = some (.frz ob u) ∧ Sim K r2 (h2.put a o) (upd H2 (r a) u) ∧ Ext K r h.next H r2 h2.next (upd H2 (r a) u) ∧ Ext0 K r2 h2.next H2 r2 h2.next (upd H2 (r a) u) := by
  obtain ⟨la, w⟩ := S.obj a o ha
  cases o with
  | dic kvs =>
    cases e
    obtain ⟨ws, h1, q⟩ := w
    refine ⟨_, h1, rfl, fun ob => ?_⟩
    have f : Free H (r a) := S.free ha rfl
    refine ⟨S.put ha rfl rfl ⟨ob, ws, upd_same, RepK.ext f.ext q⟩, fun r2 h2 H2 S2 x f2 => ?_⟩
    have er : r2 a = r a := x.at_ a la
    have hd : H2 (r a) = some (.frz ob (.dK ws)) := x.frz _ _ _ upd_same
    obtain ⟨o2, ho2⟩ : ∃ o2, h2.get a = some o2 := by
      cases q2 : h2.get a with
      | none => rw [q2] at f2; cases f2
      | some o2 => exact ⟨o2, rfl⟩
    rw [ho2] at f2
    have x2 := x.open h1 rfl
    refine ⟨er, hd, ?_, x2, open0 hd rfl⟩
    have S3 := S2.open (o := .dic kvs) (u := .dK ws) (ob := ob) ho2 f2 rfl (by rw [er]; exact hd) rfl (by rw [er]; exact ⟨ws, upd_same, RepK.ext x2 q⟩)
    rw [er] at S3
    exact S3
  | dit kvs =>
    cases e
    obtain ⟨ws, h1, q⟩ := w
    refine ⟨_, h1, rfl, fun ob => ?_⟩
    have f : Free H (r a) := S.free ha rfl
    refine ⟨S.put ha rfl rfl ⟨ob, ws, upd_same, RepK.ext f.ext q⟩, fun r2 h2 H2 S2 x f2 => ?_⟩
    have er : r2 a = r a := x.at_ a la
    have hd : H2 (r a) = some (.frz ob (.dT ws)) := x.frz _ _ _ upd_same
    obtain ⟨o2, ho2⟩ : ∃ o2, h2.get a = some o2 := by
      cases q2 : h2.get a with
      | none => rw [q2] at f2; cases f2
      | some o2 => exact ⟨o2, rfl⟩
    rw [ho2] at f2
    have x2 := x.open h1 rfl
    refine ⟨er, hd, ?_, x2, open0 hd rfl⟩
    have S3 := S2.open (o := .dit kvs) (u := .dT ws) (ob := ob) ho2 f2 rfl (by rw [er]; exact hd) rfl (by rw [er]; exact ⟨ws, upd_same, RepK.ext x2 q⟩)
    rw [er] at S3
    exact S3
  | _ => cases e
end

/-! ### a frame's names -/
structure EnvR (K : PySem.W.Frag) (r : Rho) (n : Nat) (H : Hp) (σ : L2.St) (env : Env) : Prop where
  len : σ.length = env.length
  at_ : ∀ (i : Nat) (d : D), env[i]? = some (some d) → ∃ v : V, σ[i]? = some (some v) ∧ RepV K r n H v d
section
variable {K : PySem.W.Frag} {r r' : Rho} {n n' : Nat} {H H' : Hp} {σ : L2.St} {env : Env}
theorem EnvR.ext0 (e : Ext0 K r n H r' n' H') (q : EnvR K r n H σ env) : EnvR K r' n' H' σ env := ⟨q.len, fun i d h => let ⟨v, a, b⟩ := q.at_ i d h; ⟨v, a, b.ext0 e⟩⟩
theorem EnvR.ext (e : Ext K r n H r' n' H') (q : EnvR K r n H σ env) : EnvR K r' n' H' σ env := ⟨q.len, fun i d h => let ⟨v, a, b⟩ := q.at_ i d h; ⟨v, a, b.ext e⟩⟩
theorem EnvR.set (q : EnvR K r n H σ env) {v : V} {d : D} (i : Nat) (a : RepV K r n H v d) : EnvR K r n H (σ.set i (some v)) (env.set i (some d)) := by
  refine ⟨by rw [List.length_set, List.length_set]; exact q.len, fun j e h => ?_⟩
  by_cases hj : i = j
  · subst hj
    rw [List.getElem?_set_self'] at h ⊢
    cases hs : env[i]? with
    | none => rw [hs] at h; cases h
    | some x =>
      have hl : i < env.length := (List.getElem?_eq_some_iff.mp hs).1
      rw [hs] at h
      cases h
      have hl2 : i < σ.length := by rw [q.len]; exact hl
      rw [List.getElem?_eq_getElem hl2]
      exact ⟨v, rfl, a⟩
  · rw [List.getElem?_set_ne hj] at h ⊢
    exact q.at_ j e h
theorem EnvR.unset (q : EnvR K r n H σ env) (i : Nat) : EnvR K r n H (σ.set i none) (env.set i none) := by
  refine ⟨by rw [List.length_set, List.length_set]; exact q.len, fun j e h => ?_⟩
  by_cases hj : i = j
  · subst hj
    rw [List.getElem?_set_self'] at h
    cases hs : env[i]? with
    | none => rw [hs] at h; cases h
    | some x => rw [hs] at h; cases h
  · rw [List.getElem?_set_ne hj] at h ⊢
    exact q.at_ j e h
theorem EnvR.over (q : EnvR K r n H σ env) (i : Nat) (v : V) : EnvR K r n H (σ.set i (some v)) (env.set i none) := by
  refine ⟨by rw [List.length_set, List.length_set]; exact q.len, fun j e h => ?_⟩
  by_cases hj : i = j
  · subst hj
    rw [List.getElem?_set_self'] at h
    cases hs : env[i]? with
    | none => rw [hs] at h; cases h
    | some x => rw [hs] at h; cases h
  · rw [List.getElem?_set_ne hj] at h ⊢
    exact q.at_ j e h
theorem EnvR.wipe (q : EnvR K r n H σ env) : ∀ vs : List Nat, EnvR K r n H (wipe σ vs) (wipeE env vs)
  | [] => q
  | v :: vs => EnvR.unset (EnvR.wipe q vs) v
theorem EnvR.start {vs : List V} {ds : List D} (q : RepL K r n H vs ds) {N : List Str} {ns : Nat} (hN : N.length = ns) : EnvR K r n H (L2.start N vs) (start ns ds) := by
  have hl := q.len
  refine ⟨?_, fun i d h => ?_⟩
  · unfold L2.start Z.start
    simp only [List.length_append, List.length_map, List.length_replicate, hl, hN]
  · unfold Z.start at h
    unfold L2.start
    by_cases hi : i < ds.length
    · rw [List.getElem?_append_left (by simpa using hi), List.getElem?_map] at h
      obtain ⟨x, hx, e⟩ := Option.map_eq_some_iff.mp h
      cases e
      obtain ⟨v, hv, rv⟩ := q.get hx
      refine ⟨v, ?_, rv⟩
      rw [List.getElem?_append_left (by simpa [hl] using hi), List.getElem?_map, hv]
      rfl
    · rw [List.getElem?_append_right (by simpa using hi), List.getElem?_replicate] at h
      split at h <;> cases h
end
end Z

set_option maxRecDepth 100000
set_option maxHeartbeats 1000000
/-! ZE: operators: what the layer asks of them, and that the model's answers suffice. -/
namespace Z
open PySem L2

/-- what is wished behind: of a value, of an error -/
def PG {α β : Type} (K : PySem.W.Frag) (W : XK) (r : Rho) (h : Hm) (H : Hp) (R : Rho → Nat → Hp → β → α → Prop) (Q : β → Hp → Prop) : Except String α → Hm → Prop
  | .ok d, h' => ∀ v r' H', Sim K r' h' H' → Ext K r h.next H r' h'.next H' → R r' h'.next H' v d → Q v H'
  | .error k, h' => ∀ r' H', Sim K r' h' H' → Ext K r h.next H r' h'.next H' → W (.ref (ca K k)) none H'
section
variable {α β : Type} {K : PySem.W.Frag} {W : XK} {r r1 : Rho} {h h1 h' : Hm} {H H1 : Hp} {R : Rho → Nat → Hp → β → α → Prop} {Q : β → Hp → Prop} {res : Except String α}
theorem PG.later (p : PG K W r h H R Q res h') (e : Ext K r h.next H r1 h1.next H1) : PG K W r1 h1 H1 R Q res h' := by
  cases res with
  | ok d => exact fun v r' H' S x q => p v r' H' S (e.trans x) q
  | error k => exact fun r' H' S x => p r' H' S (e.trans x)
end

theorem lim_le {n : Nat} (h : n ≤ lim) : n ≤ sizeLine := Nat.le_trans h (by rw [sizeLine_eq]; decide)
theorem lim_lt {n : Nat} (h : n < lim) : n < sizeLine := Nat.lt_of_lt_of_le h (by rw [sizeLine_eq]; decide)

/-! ### binary operators -/
theorem rep_size (a : Array Nat) : ∀ (n : Nat) (acc : Array Nat), (List.foldl (fun a b => a ++ b) acc (List.replicate n a)).size = acc.size + n * a.size
  | 0, acc => by simp
  | n + 1, acc => by
    rw [List.replicate_succ, List.foldl_cons, rep_size a n, Array.size_append, Nat.succ_mul]
    omega
abbrev rMulS : R2 := fun x y H Q => ∃ s k, x = V.str s ∧ y = V.int k ∧ s.length = 1 ∧ 2 ≤ k ∧ k ≤ 10000 ∧ Q (V.str (repS s k)) H
theorem op_mul_str {X : Cx} : OpR X (binaryOp .Mult) rMulS := by
  intro pins s σ H x y v u Q I rx ry h
  obtain ⟨z, k, rfl, rfl, h1, h2, h3, q⟩ := h
  obtain ⟨t, rfl⟩ := rx
  obtain ⟨t', rfl⟩ := ry
  refine P.mul_str ?_ ?_ ?_ ?_
  · simp; omega
  · intro _ _ hc
    rw [h1] at hc
    have : (2 ^ 63 - 1) / k ≥ 1 := Int.le_ediv_of_mul_le (by omega) (by omega)
    omega
  · intro _ _
    unfold Builtin.Str.tooLong
    rw [h1, sizeLine_eq]
    simp
    omega
  · rw [if_neg (by omega), if_neg (by rw [h1]; simp; omega), Made.post]
    refine ⟨?_, Exists.intro (V.str _) (Exists.intro H ⟨Inv.tok I _, ⟨Exists.intro _ rfl, q⟩⟩)⟩
    show (List.foldl (fun a b => a ++ b) #[] (List.replicate k.toNat z.cps)).size ≤ sizeLine
    have h4 : z.cps.size = 1 := h1
    rw [rep_size, h4, sizeLine_eq]
    simp
    omega
abbrev rCatS : R2 := fun x y H Q => ∃ i j, x = .str i ∧ y = .str j ∧ i.length + j.length ≤ sizeLine ∧ Q (.str (i ++ j)) H
def rB (K : PySem.W.Frag) : Bop → R2
  | .add => fun x y H Q => rI0 (fun i j => .int (i + j)) x y H Q ∨ (rCatS x y H Q ∨ (rCatT K x y H Q ∨ rCat x y H Q))
  | .sub => rI0 fun i j => .int (i - j)
  | .mul => fun x y H Q => rI CMul (fun i j => .int (i * j)) x y H Q ∨ (rI CMulX (fun i j => .int (i * j)) x y H Q ∨ (rRep x y H Q ∨ rMulS x y H Q))
  | .fdiv => rI CDivW fun i j => .int (i / j)
  | .mod => rI (fun _ j => 0 < j) fun i j => .int (i % j)
  | .pow => rI CPow fun i j => .int (i ^ j.toNat)
  | .shl => rI CPow fun i j => .int (i * 2 ^ j.toNat)
  | .shr => rI (fun _ j => 0 ≤ j) fun i j => .int (i / 2 ^ j.toNat)
  | .band => rI0 fun i j => .int (Builtin.bitAnd i j)
  | .bor => rI0 fun i j => .int (Builtin.bitOr i j)
  | .bxor => rI0 fun i j => .int (Builtin.bitXor i j)
def oB : Bop → Operator
  | .add => .Add | .sub => .Sub | .mul => .Mult | .fdiv => .FloorDiv | .mod => .Mod | .pow => .Pow | .shl => .LShift | .shr => .RShift
  | .band => .BitAnd | .bor => .BitOr | .bxor => .BitXor
section
variable {X : Cx}
theorem z_add : OpR X (binaryOp .Add) (rB X.K .add) := op_add.or (op_add_str.or (op_catT.or op_cat))
theorem z_sub : OpR X (binaryOp .Sub) (rB X.K .sub) := op_sub
theorem z_mul : OpR X (binaryOp .Mult) (rB X.K .mul) := op_mul.or (op_mulX.or (op_rep.or op_mul_str))
theorem z_fdiv : OpR X (binaryOp .FloorDiv) (rB X.K .fdiv) := op_fdivW
theorem z_mod : OpR X (binaryOp .Mod) (rB X.K .mod) := op_mod
theorem z_pow : OpR X (binaryOp .Pow) (rB X.K .pow) := op_pow
theorem z_shl : OpR X (binaryOp .LShift) (rB X.K .shl) := op_shl
theorem z_shr : OpR X (binaryOp .RShift) (rB X.K .shr) := op_shr
theorem z_band : OpR X (binaryOp .BitAnd) (rB X.K .band) := op_and
theorem z_bor : OpR X (binaryOp .BitOr) (rB X.K .bor) := op_or
theorem z_bxor : OpR X (binaryOp .BitXor) (rB X.K .bxor) := op_xor
end
theorem natAbs_big {i : Int} (h : big i) : i.natAbs < 2 ^ 250 := by
  obtain ⟨h1, h2⟩ := h
  omega
section
variable {K : PySem.W.Frag} {W : XK} {r : Rho} {h h' : Hm} {H : Hp} {Q : VK} {res : Except String D} {v w : V} {x y : D}
/-- a new list -/
theorem s_newlist (S : Sim K r h H) {vs : List V} {xs : List D} (q : RepL K r h.next H vs xs) (p : PG K W r h H (RepV K) Q (.ok (.ref h.next)) (h.new (.lst xs))) : ∀ a, H a = none → Q (.ref a) (upd H a (.lst vs)) := by
  intro a ha
  have x1 := (Free.extN (K := K) (r := r) (n := h.next) (u := .lst vs) (.inl ha))
  have S1 : Sim K (rn r h.next a) (h.new (.lst xs)) (upd H a (.lst vs)) := S.new ha rfl ⟨vs, upd_same, q.ext x1⟩
  have e : V.ref a = .ref (rn r h.next a h.next) := by rw [rn_at]
  exact p _ _ _ S1 x1 (by rw [e]; exact .ref (Nat.lt_succ_self _))
theorem s_newtup (S : Sim K r h H) {vs : List V} {xs : List D} (q : RepL K r h.next H vs xs) (p : PG K W r h H (RepV K) Q (.ok (.tup xs)) h) : ∀ a, H a = none → Q (.ref a) (upd H a (.tup vs)) := by
  intro a ha
  have x1 := (Free.ext (K := K) (r := r) (n := h.next) (u := .tup vs) (.inl ha))
  exact p _ _ _ (S.grow ha) x1 (.tup (.inl (.inl upd_same)) (q.ext x1))
theorem repL_ne {n : Nat} {vs : List V} {x : D} {xs : List D} (q : RepL K r n H vs (x :: xs)) : vs ≠ [] := by
  cases q with
  | cons a b => exact List.cons_ne_nil _ _
/-- same heap, a plain answer -/
theorem s_plain (S : Sim K r h H) {u : V} {d : D} (q : RepV K r h.next H u d) (p : PG K W r h H (RepV K) Q (.ok d) h) : Q u H := p u r H S Ext.refl q
theorem s_bin {o : Bop} (S : Sim K r h H) (rv : RepV K r h.next H v x) (rw_ : RepV K r h.next H w y) (e : binD o x y h = some (res, h')) (p : PG K W r h H (RepV K) Q res h') : rB K o v w H Q := by
  cases o with
  | add =>
    cases rv with
    | int i =>
      cases rw_ with
      | int j => cases e; exact .inl ⟨_, _, rfl, rfl, s_plain S (.int _) p⟩
      | _ => cases e
    | str s =>
      cases rw_ with
      | str t =>
        simp only [binD] at e
        split at e
        · rename_i hl
          cases e
          exact .inr (.inl ⟨_, _, rfl, rfl, lim_le hl, s_plain S (.str _) p⟩)
        · cases e
      | _ => cases e
    | @tup a vs ds hT q =>
      cases rw_ with
      | @tup b us es hU q2 =>
        cases ds with
        | nil => cases e
        | cons d ds =>
          simp only [binD] at e
          split at e
          · rename_i hl
            cases e
            refine .inr (.inr (.inl ⟨a, b, vs, us, rfl, rfl, hT, hU, repL_ne q, ?_, fun eu => ?_, fun _ => ?_⟩))
            · rw [q.len, q2.len, List.length_cons]
              exact lim_le (by omega)
            · subst eu
              cases q2
              simp only [List.append_nil] at p
              exact s_plain S (.tup hT q) p
            · exact s_newtup S (q.app q2) p
          · cases e
      | _ => cases ds <;> cases e
    | @ref a la =>
      cases rw_ with
      | @ref b lb =>
        simp only [binD] at e
        split at e
        · rename_i xs ys ha hb
          split at e
          · rename_i hl
            cases e
            obtain ⟨vs, e1, q1⟩ := (S.obj a _ ha).2
            obtain ⟨us, e2, q2⟩ := (S.obj b _ hb).2
            refine .inr (.inr (.inr ⟨_, _, vs, us, rfl, rfl, e1, e2, ?_, s_newlist S (q1.app q2) p⟩))
            rw [q1.len, q2.len]
            exact lim_le hl
          · cases e
        · cases e
      | _ => cases e
    | _ => cases e
  | sub =>
    cases rv with
    | int i =>
      cases rw_ with
      | int j => cases e; exact ⟨_, _, rfl, rfl, s_plain S (.int _) p⟩
      | _ => cases e
    | _ => cases e
  | mul =>
    cases rv with
    | int i =>
      cases rw_ with
      | int j =>
        simp only [binD] at e
        split at e
        · rename_i hl
          cases e
          rcases hl with hl | hl | hl
          · exact .inl ⟨_, _, rfl, rfl, .inl hl, s_plain S (.int _) p⟩
          · exact .inl ⟨_, _, rfl, rfl, .inr hl, s_plain S (.int _) p⟩
          · exact .inr (.inl ⟨_, _, rfl, rfl, mulx_ok (natAbs_big hl.1) (natAbs_big hl.2) (by decide), s_plain S (.int _) p⟩)
        · cases e
      | _ => cases e
    | str s =>
      cases rw_ with
      | int k =>
        simp only [binD] at e
        split at e
        · rename_i hl
          cases e
          exact .inr (.inr (.inr ⟨_, _, rfl, rfl, hl.1, hl.2.1, hl.2.2, s_plain S (.str _) p⟩))
        · cases e
      | _ => cases e
    | @ref a la =>
      cases rw_ with
      | int k =>
        simp only [binD] at e
        split at e
        · rename_i xs ha
          split at e
          · rename_i hl
            cases e
            obtain ⟨vs, e1, q1⟩ := (S.obj a _ ha).2
            obtain ⟨⟨h1, h2⟩, h3⟩ := hl
            refine .inr (.inr (.inl ⟨_, k, vs, rfl, rfl, e1, by omega, by omega, ?_, s_newlist S (q1.rep _) p⟩))
            rw [q1.len]
            exact lim_le h3
          · cases e
        · cases e
      | _ => cases e
    | _ => cases e
  | fdiv =>
    cases rv with
    | int i =>
      cases rw_ with
      | int j =>
        simp only [binD] at e
        split at e
        · rename_i hl
          cases e
          exact ⟨_, _, rfl, rfl, wide_div hl.1 (b := 250) (by omega) (by decide) (by decide), s_plain S (.int _) p⟩
        · cases e
      | _ => cases e
    | _ => cases e
  | mod =>
    cases rv with
    | int i =>
      cases rw_ with
      | int j =>
        simp only [binD] at e
        split at e
        · rename_i hl
          cases e
          exact ⟨_, _, rfl, rfl, hl, s_plain S (.int _) p⟩
        · cases e
      | _ => cases e
    | _ => cases e
  | pow =>
    cases rv with
    | int i =>
      cases rw_ with
      | int j =>
        simp only [binD] at e
        split at e
        · rename_i hl
          cases e
          obtain ⟨h1, h2, h3, h4⟩ := hl
          exact ⟨_, _, rfl, rfl, ⟨h1, h2, by omega⟩, s_plain S (.int _) p⟩
        · cases e
      | _ => cases e
    | _ => cases e
  | shl =>
    cases rv with
    | int i =>
      cases rw_ with
      | int j =>
        simp only [binD] at e
        split at e
        · rename_i hl
          cases e
          obtain ⟨h1, h2, h3, h4⟩ := hl
          exact ⟨_, _, rfl, rfl, ⟨h1, h2, by omega⟩, s_plain S (.int _) p⟩
        · cases e
      | _ => cases e
    | _ => cases e
  | shr =>
    cases rv with
    | int i =>
      cases rw_ with
      | int j =>
        simp only [binD] at e
        split at e
        · rename_i hl
          cases e
          exact ⟨_, _, rfl, rfl, hl, s_plain S (.int _) p⟩
        · cases e
      | _ => cases e
    | _ => cases e
  | band =>
    cases rv with
    | int i =>
      cases rw_ with
      | int j => cases e; exact ⟨_, _, rfl, rfl, s_plain S (.int _) p⟩
      | _ => cases e
    | _ => cases e
  | bor =>
    cases rv with
    | int i =>
      cases rw_ with
      | int j => cases e; exact ⟨_, _, rfl, rfl, s_plain S (.int _) p⟩
      | _ => cases e
    | _ => cases e
  | bxor =>
    cases rv with
    | int i =>
      cases rw_ with
      | int j => cases e; exact ⟨_, _, rfl, rfl, s_plain S (.int _) p⟩
      | _ => cases e
    | _ => cases e
end
end Z

set_option maxRecDepth 100000
set_option maxHeartbeats 1000000
/-! ZF: comparisons, items, slices, truth. -/
namespace Z
open PySem L2

/-! ### comparisons -/
abbrev rSgn (b : Bool) : R2 := fun x y H Q => ∃ (c : Nat) (z : Str), x = .str ⟨#[c]⟩ ∧ y = .str z ∧ Q (.bl (if b = true then !decide (c ∈ z.cps.toList) else decide (c ∈ z.cps.toList))) H
abbrev rSub (b : Bool) : R2 := fun x y H Q => ∃ i j, x = .str i ∧ y = .str j ∧ Q (.bl (if b = true then !(!(Builtin.Str.occurrences j i 0 j.length 1).isEmpty) else !(Builtin.Str.occurrences j i 0 j.length 1).isEmpty)) H
abbrev rKey (b : Bool) : R2 := fun x y H Q => ∃ a o, y = .ref a ∧ DGet H a x o ∧ Q (.bl (if b = true then !o.isSome else o.isSome)) H
def rCm (K : PySem.W.Frag) : Cop → R2
  | .eq => fun x y H Q => rEq x y H Q ∨ rEqD K x y H Q
  | .ne => fun x y H Q => rNe x y H Q ∨ rNeD K x y H Q
  | .lt => rI0 fun i j => .bl (decide (i < j))
  | .le => rI0 fun i j => .bl (decide (i ≤ j))
  | .gt => rI0 fun i j => .bl (decide (j < i))
  | .ge => rI0 fun i j => .bl (decide (j ≤ i))
  | .isN => fun x y H Q => (y = .non ∧ Q (.bl (decide (x = .non))) H) ∨ (∃ a b, x = .bl a ∧ y = .bl b ∧ Q (.bl (decide (a = b))) H)
  | .notN => fun x y H Q => (y = .non ∧ Q (.bl (!decide (x = .non))) H) ∨ (∃ a b, x = .bl a ∧ y = .bl b ∧ Q (.bl (!decide (a = b))) H)
  | .inn => fun x y H Q => rSgn false x y H Q ∨ (rSub false x y H Q ∨ (rIn K false x y H Q ∨ rKey false x y H Q))
  | .nin => fun x y H Q => rSgn true x y H Q ∨ (rSub true x y H Q ∨ (rIn K true x y H Q ∨ rKey true x y H Q))
section
variable {X : Cx}
theorem op_key (hu : X.A.units + 64 < cLine) : OpR X (compareOp .In) (rKey false) := by
  intro pins s σ H x y v u Q I rx ry h
  obtain ⟨a, o, e, g, q⟩ := h
  subst e
  obtain rfl : u = Value.ref a := ry
  exact d_in (by omega) I g rx fun s3 I3 => ⟨.bl o.isSome, H, I3, rfl, q⟩
theorem op_nkey (hu : X.A.units + 64 < cLine) : OpR X (compareOp .NotIn) (rKey true) := by
  intro pins s σ H x y v u Q I rx ry h
  obtain ⟨a, o, e, g, q⟩ := h
  subst e
  obtain rfl : u = Value.ref a := ry
  exact d_notIn (by omega) I g rx fun s3 I3 => ⟨.bl (!o.isSome), H, I3, rfl, q⟩
theorem z_eq (hu : X.A.units + 64 < cLine) : OpR X (compareOp .Eq) (rCm X.K .eq) := op_eq.or (op_eqD hu)
theorem z_ne (hu : X.A.units + 64 < cLine) : OpR X (compareOp .NotEq) (rCm X.K .ne) := op_ne.or (op_neD hu)
theorem z_lt (hu : X.A.units + 64 < cLine) : OpR X (compareOp .Lt) (rCm X.K .lt) := op_lt
theorem z_le (hu : X.A.units + 64 < cLine) : OpR X (compareOp .LtE) (rCm X.K .le) := op_le
theorem z_gt (hu : X.A.units + 64 < cLine) : OpR X (compareOp .Gt) (rCm X.K .gt) := op_gt
theorem z_ge (hu : X.A.units + 64 < cLine) : OpR X (compareOp .GtE) (rCm X.K .ge) := op_ge
theorem z_isN (hu : X.A.units + 64 < cLine) : OpR X (compareOp .Is) (rCm X.K .isN) := op_isN.or op_is_bl
theorem z_notN (hu : X.A.units + 64 < cLine) : OpR X (compareOp .IsNot) (rCm X.K .notN) := op_notN.or op_isnot_bl
theorem z_in (hu : X.A.units + 64 < cLine) : OpR X (compareOp .In) (rCm X.K .inn) := by
  refine OpR.or (r := rSgn false) ?_ (OpR.or (r := rSub false) ?_ (op_in_seq.or (op_key hu)))
  · exact op_in_sign
  · exact op_in_str
theorem z_nin (hu : X.A.units + 64 < cLine) : OpR X (compareOp .NotIn) (rCm X.K .nin) := by
  refine OpR.or (r := rSgn true) ?_ (OpR.or (r := rSub true) ?_ (op_notIn_seq.or (op_nkey hu)))
  · exact op_notIn_sign
  · exact op_notin_str
end

section
variable {K : PySem.W.Frag} {W : XK} {r : Rho} {h h' : Hm} {H : Hp} {Q : VK} {res : Except String D} {v w : V} {x y : D}
theorem mapO_dp {f : D → Option PyData} (hf : ∀ d v pd, RepV K r h.next H v d → f d = some pd → Dp K H v pd) : ∀ {ds : List D} {vs : List V} {ps : List PyData}, RepL K r h.next H vs ds → mapO f ds = some ps → DpAll K H vs ps
  | _, _, _, .nil, e => by cases e; exact .nil
  | d :: ds, _, _, .cons a b, e => by
    unfold mapO at e
    cases e1 : f d with
    | none => rw [e1] at e; cases e
    | some y =>
      cases e2 : mapO f ds with
      | none => rw [e1, e2] at e; cases e
      | some ys =>
        rw [e1, e2] at e
        cases e
        exact .cons (hf _ _ _ a e1) (mapO_dp hf b e2)
theorem dat_dp (S : Sim K r h H) : ∀ (n : Nat) (d : D) (v : V) (pd : PyData), RepV K r h.next H v d → dat h n d = some pd → Dp K H v pd
  | 0, _, _, _, .non, e => by cases e; exact .non
  | 0, _, _, _, .bl b, e => by cases e; exact .bl b
  | 0, _, _, _, .int b, e => by cases e; exact .int b
  | 0, _, _, _, .str b, e => by cases e; exact .str b
  | 0, _, _, _, .tup _ _, e => by cases e
  | 0, _, _, _, .ref _, e => by cases e
  | 0, _, _, _, .exc _ _, e => by cases e
  | 0, _, _, _, .xob _ _ _ _, e => by cases e
  | n + 1, _, _, _, .non, e => by cases e; exact .non
  | n + 1, _, _, _, .bl b, e => by cases e; exact .bl b
  | n + 1, _, _, _, .int b, e => by cases e; exact .int b
  | n + 1, _, _, _, .str b, e => by cases e; exact .str b
  | n + 1, _, _, _, .tup hT q, e => by
    unfold dat at e
    obtain ⟨ps, e1, e2⟩ := Option.map_eq_some_iff.mp e
    subst e2
    exact .tup hT (mapO_dp (dat_dp S n) q e1)
  | n + 1, _, _, _, .ref (a := a) la, e => by
    unfold dat at e
    split at e
    · rename_i xs ha
      obtain ⟨ps, e1, e2⟩ := Option.map_eq_some_iff.mp e
      subst e2
      obtain ⟨vs, h1, q⟩ := (S.obj a _ ha).2
      exact .lst (.inl (.inl h1)) (mapO_dp (dat_dp S n) q e1)
    · rename_i xs ha
      obtain ⟨ps, e1, e2⟩ := Option.map_eq_some_iff.mp e
      subst e2
      obtain ⟨vs, h1, q⟩ := (S.obj a _ ha).2
      exact .lst h1.l (mapO_dp (dat_dp S n) q e1)
    · cases e
  | n + 1, _, _, _, .exc _ _, e => by cases e
  | n + 1, _, _, _, .xob _ _ _ _, e => by cases e
/-- == by either rule -/
theorem s_eqD {b : Bool} (S : Sim K r h H) (rv : RepV K r h.next H v x) (rw_ : RepV K r h.next H w y) (e : eqD x y h = some b) :
    (scal v w = true ∧ decide (v = w) = b) ∨ ∃ d c, Dp K H v d ∧ Dp K H w c ∧ SeqAt.shaped d = true ∧ SeqAt.shaped c = true ∧ PyData.eqv d c = b := by
  have deepP : ∀ {x y : D}, RepV K r h.next H v x → RepV K r h.next H w y → (match dat h deep x, dat h deep y with
    | some d, some e => if (SeqAt.shaped d && SeqAt.shaped e) = true then some (PyData.eqv d e) else none
    | _, _ => none) = some b → ∃ d c, Dp K H v d ∧ Dp K H w c ∧ SeqAt.shaped d = true ∧ SeqAt.shaped c = true ∧ PyData.eqv d c = b := by
    intro x y rv rw_ e
    split at e
    · rename_i d c e1 e2
      split at e
      · rename_i hs
        cases e
        obtain ⟨s1, s2⟩ := Bool.and_eq_true_iff.mp hs
        exact ⟨d, c, dat_dp S _ _ _ _ rv e1, dat_dp S _ _ _ _ rw_ e2, s1, s2, rfl⟩
      · cases e
    · cases e
  cases rv with
  | int i =>
    cases rw_ with
    | int j =>
      cases e
      refine .inl ⟨rfl, ?_⟩
      by_cases hij : i = j
      · subst hij; simp
      · simp [hij]
    | str t => cases e; exact .inl ⟨rfl, by simp⟩
    | non => exact .inr (deepP (.int i) .non e)
    | bl c => exact .inr (deepP (.int i) (.bl c) e)
    | tup a c => exact .inr (deepP (.int i) (.tup a c) e)
    | ref a => exact .inr (deepP (.int i) (.ref a) e)
    | exc k a => exact .inr (deepP (.int i) (.exc k a) e)
    | xob k1 h1 z1 f1 => exact .inr (deepP (.int i) (.xob k1 h1 z1 f1) e)
  | str s =>
    cases rw_ with
    | str t =>
      cases e
      refine .inl ⟨rfl, ?_⟩
      by_cases hij : s = t
      · subst hij; simp
      · simp [hij]
    | int t => cases e; exact .inl ⟨rfl, by simp⟩
    | non => exact .inr (deepP (.str s) .non e)
    | bl c => exact .inr (deepP (.str s) (.bl c) e)
    | tup a c => exact .inr (deepP (.str s) (.tup a c) e)
    | ref a => exact .inr (deepP (.str s) (.ref a) e)
    | exc k a => exact .inr (deepP (.str s) (.exc k a) e)
    | xob k1 h1 z1 f1 => exact .inr (deepP (.str s) (.xob k1 h1 z1 f1) e)
  | bl s =>
    cases rw_ with
    | bl t =>
      cases e
      refine .inl ⟨rfl, ?_⟩
      by_cases hij : s = t
      · subst hij; simp
      · simp [hij]
    | int c => exact .inr (deepP (.bl s) (.int c) e)
    | non => exact .inr (deepP (.bl s) .non e)
    | str c => exact .inr (deepP (.bl s) (.str c) e)
    | tup a c => exact .inr (deepP (.bl s) (.tup a c) e)
    | ref a => exact .inr (deepP (.bl s) (.ref a) e)
    | exc k a => exact .inr (deepP (.bl s) (.exc k a) e)
    | xob k1 h1 z1 f1 => exact .inr (deepP (.bl s) (.xob k1 h1 z1 f1) e)
  | non =>
    cases rw_ with
    | non => cases e; exact .inl ⟨rfl, by simp⟩
    | int c => exact .inr (deepP .non (.int c) e)
    | bl c => exact .inr (deepP .non (.bl c) e)
    | str c => exact .inr (deepP .non (.str c) e)
    | tup a c => exact .inr (deepP .non (.tup a c) e)
    | ref a => exact .inr (deepP .non (.ref a) e)
    | exc k a => exact .inr (deepP .non (.exc k a) e)
    | xob k1 h1 z1 f1 => exact .inr (deepP .non (.xob k1 h1 z1 f1) e)
  | tup ta tc =>
    cases rw_ with
    | non => exact .inr (deepP (.tup ta tc) .non e)
    | int c => exact .inr (deepP (.tup ta tc) (.int c) e)
    | bl c => exact .inr (deepP (.tup ta tc) (.bl c) e)
    | str c => exact .inr (deepP (.tup ta tc) (.str c) e)
    | tup x y => exact .inr (deepP (.tup ta tc) (.tup x y) e)
    | ref x => exact .inr (deepP (.tup ta tc) (.ref x) e)
    | exc x y => exact .inr (deepP (.tup ta tc) (.exc x y) e)
    | xob k1 h1 z1 f1 => exact .inr (deepP (.tup ta tc) (.xob k1 h1 z1 f1) e)
  | ref ra =>
    cases rw_ with
    | non => exact .inr (deepP (.ref ra) .non e)
    | int c => exact .inr (deepP (.ref ra) (.int c) e)
    | bl c => exact .inr (deepP (.ref ra) (.bl c) e)
    | str c => exact .inr (deepP (.ref ra) (.str c) e)
    | tup x y => exact .inr (deepP (.ref ra) (.tup x y) e)
    | ref x => exact .inr (deepP (.ref ra) (.ref x) e)
    | exc x y => exact .inr (deepP (.ref ra) (.exc x y) e)
    | xob k1 h1 z1 f1 => exact .inr (deepP (.ref ra) (.xob k1 h1 z1 f1) e)
  | exc k a =>
    cases rw_ with
    | non => exact .inr (deepP (.exc k a) .non e)
    | int c => exact .inr (deepP (.exc k a) (.int c) e)
    | bl c => exact .inr (deepP (.exc k a) (.bl c) e)
    | str c => exact .inr (deepP (.exc k a) (.str c) e)
    | tup x y => exact .inr (deepP (.exc k a) (.tup x y) e)
    | ref x => exact .inr (deepP (.exc k a) (.ref x) e)
    | exc x y => exact .inr (deepP (.exc k a) (.exc x y) e)
    | xob k1 h1 z1 f1 => exact .inr (deepP (.exc k a) (.xob k1 h1 z1 f1) e)
  | xob k h z f =>
    cases rw_ with
    | non => exact .inr (deepP (.xob k h z f) .non e)
    | int c => exact .inr (deepP (.xob k h z f) (.int c) e)
    | bl c => exact .inr (deepP (.xob k h z f) (.bl c) e)
    | str c => exact .inr (deepP (.xob k h z f) (.str c) e)
    | tup x y => exact .inr (deepP (.xob k h z f) (.tup x y) e)
    | ref x => exact .inr (deepP (.xob k h z f) (.ref x) e)
    | exc x y => exact .inr (deepP (.xob k h z f) (.exc x y) e)
    | xob k1 h1 z1 f1 => exact .inr (deepP (.xob k h z f) (.xob k1 h1 z1 f1) e)
/-! ### membership -/
theorem flat_of (rv : RepV K r h.next H v x) (f : flatD x = true) : flatV v = true := by
  cases rv <;> first | rfl | cases f
theorem flatL_of : ∀ {ds : List D} {vs : List V}, RepL K r h.next H vs ds → ds.all flatD = true → vs.all flatV = true
  | _, _, .nil, _ => rfl
  | _, _, .cons a b, f => by
    rw [List.all_cons, Bool.and_eq_true_iff] at f
    rw [List.all_cons, flat_of a f.1, flatL_of b f.2]
    rfl
theorem eqF_of (rv : RepV K r h.next H v x) (rw_ : RepV K r h.next H w y) (f : flatD x = true) (g : flatD y = true) : eqV v w = eqF x y := by
  cases rv with
  | tup a b => cases f
  | ref a => cases f
  | _ => cases rw_ <;> first | rfl | cases g
theorem inL_of (rv : RepV K r h.next H v x) (f : flatD x = true) : ∀ {ds : List D} {vs : List V}, RepL K r h.next H vs ds → ds.all flatD = true → inV v vs = ds.any fun y => eqF y x
  | _, _, .nil, _ => rfl
  | _, _, .cons a b, g => by
    rw [List.all_cons, Bool.and_eq_true_iff] at g
    have ih := inL_of rv f b g.2
    unfold inV at ih ⊢
    rw [List.any_cons, List.any_cons, ih, eqF_of a rv g.1 f]
theorem key_of (rv : RepV K r h.next H v x) {k : Key} (e : key? x = some k) : v = kV k := by
  cases rv with
  | int i => cases e; rfl
  | str s => cases e; rfl
  | _ => cases e
theorem keys_of : ∀ {ds : List D} {vs : List V} {ks : List Key}, RepL K r h.next H vs ds → keys? ds = some ks → vs = ks.map kV
  | _, _, _, .nil, e => by cases e; rfl
  | d :: ds, _, _, .cons a b, e => by
    unfold keys? at e
    cases e1 : key? d with
    | none => rw [e1] at e; cases e
    | some y =>
      cases e2 : keys? ds with
      | none => rw [e1, e2] at e; cases e
      | some ys =>
        rw [e1, e2] at e
        cases e
        rw [key_of a e1, keys_of b e2]
        rfl
theorem repKey (k : Key) : RepV K r h.next H (kV k) (keyD k) := by
  cases k with
  | inl i => exact .int i
  | inr s => exact .str s
theorem repKeyL : ∀ ks : List Key, RepL K r h.next H (ks.map kV) (ks.map keyD)
  | [] => .nil
  | k :: ks => .cons (repKey k) (repKeyL ks)
theorem repKeys {ws : List (Key × V)} {kvs : List (Key × D)} (q : RepK K r h.next H ws kvs) : RepL K r h.next H (ws.map fun kv => kV kv.1) (kvs.map fun kv => keyD kv.1) := by
  have e1 : (ws.map fun kv => kV kv.1) = (ws.map (·.1)).map kV := by rw [List.map_map]; rfl
  have e2 : (kvs.map fun kv => keyD kv.1) = (kvs.map (·.1)).map keyD := by rw [List.map_map]; rfl
  rw [e1, e2, q.1]
  exact repKeyL _
end
section
variable {κ : Type} [DecidableEq κ] {K : PySem.W.Frag} {r : Rho} {n : Nat} {H : Hp}
/-- what stands at a key -/
theorem repK_get (k : κ) : ∀ {kvs : List (κ × D)} {ws : List (κ × V)}, RepK K r n H ws kvs →
    (∀ d, kget kvs k = some d → ∃ u, valV ws k = some u ∧ RepV K r n H u d) ∧ (kget kvs k = none → valV ws k = none)
  | [], [], _ => ⟨fun d e => (by cases e), fun _ => rfl⟩
  | [], w :: ws, q => nomatch q.1
  | p :: kvs, [], q => nomatch q.1
  | p :: kvs, w :: ws, q => by
    obtain ⟨q1, q2⟩ := q
    simp only [List.map_cons, List.cons.injEq] at q1
    simp only [List.map_cons] at q2
    cases q2 with
    | cons a b =>
      by_cases hk : p.1 = k
      · have hw : w.1 = k := q1.1.trans hk
        rw [valV_pos hw]
        have e : kget (p :: kvs) k = some p.2 := by simp [kget, List.find?_cons, hk]
        rw [e]
        exact ⟨fun d z => by cases z; exact ⟨_, rfl, a⟩, fun z => by cases z⟩
      · have hw : ¬ w.1 = k := fun z => hk (q1.1.symm.trans z)
        rw [valV_neg hw]
        have e : kget (p :: kvs) k = kget kvs k := by simp [kget, List.find?_cons, hk]
        rw [e]
        exact repK_get k ⟨q1.2, b⟩
end
section
variable {K : PySem.W.Frag} {W : XK} {r : Rho} {h h' : Hm} {H : Hp} {Q : VK} {res : Except String D} {v w : V} {x y : D}
theorem dget_of (S : Sim K r h H) {a : Nat} {o : Option D} (rv : RepV K r h.next H v x) (e : dget h a x = some o) :
    ∃ u, DGet H (r a) v u ∧ (∀ d, o = some d → ∃ z, u = some z ∧ RepV K r h.next H z d) ∧ (o = none → u = none) := by
  unfold dget at e
  split at e
  · rename_i kvs ha
    obtain ⟨k, e1, e2⟩ := Option.map_eq_some_iff.mp e
    obtain ⟨ws, h1, q⟩ := (S.obj a _ ha).2
    obtain ⟨g1, g2⟩ := repK_get k q
    rw [key_of rv e1]
    refine ⟨_, DGet.k h1, fun d z => ?_, fun z => ?_⟩
    · rw [z] at e2
      exact g1 d e2
    · rw [z] at e2
      exact g2 e2
  · rename_i kvs ha
    obtain ⟨k, e1, e2⟩ := Option.map_eq_some_iff.mp e
    obtain ⟨ob, ws, h1, q⟩ := (S.obj a _ ha).2
    obtain ⟨g1, g2⟩ := repK_get k q
    rw [key_of rv e1]
    refine ⟨_, Or.inl ⟨ws, k, .inr ⟨ob, h1⟩, rfl, rfl⟩, fun d z => ?_, fun z => ?_⟩
    · rw [z] at e2
      exact g1 d e2
    · rw [z] at e2
      exact g2 e2
  · cases e
theorem s_in {b : Bool} (S : Sim K r h H) (rv : RepV K r h.next H v x) (rw_ : RepV K r h.next H w y) (e : inD x y h = some b) (g : Bool) (p : Q (.bl (if g = true then !b else b)) H) :
    rSgn g v w H Q ∨ (rSub g v w H Q ∨ (rIn K g v w H Q ∨ rKey g v w H Q)) := by
  cases rw_ with
  | str z =>
    cases rv with
    | str s =>
      simp only [inD, Option.some.injEq] at e
      unfold inS at e
      split at e
      · rename_i h1
        refine .inl ⟨s.cps.getD 0 0, z, ?_, rfl, ?_⟩
        · have e1 : s.cps = #[s.cps.getD 0 0] := by
            apply Array.ext
            · simpa using h1
            · intro i hi1 hi2
              have : i = 0 := by simp at hi2; exact hi2
              subst this
              simp [Array.getD, hi1]
          obtain ⟨c⟩ := s
          simp only at e1 ⊢
          exact congrArg (fun c => V.str ⟨c⟩) e1
        · subst e
          exact p
      · refine .inr (.inl ⟨s, z, rfl, rfl, ?_⟩)
        subst e
        exact p
    | _ => cases e
  | @tup a vs ds hT q =>
    simp only [inD, inL] at e
    split at e
    · rename_i hf
      cases e
      refine .inr (.inr (.inl ⟨a, vs, rfl, .inr hT, flat_of rv hf.1, flatL_of q hf.2, ?_⟩))
      rw [inL_of rv hf.1 q hf.2]
      exact p
    · cases e
  | @ref a la =>
    simp only [inD] at e
    split at e
    · rename_i xs ha
      obtain ⟨vs, h1, q⟩ := (S.obj a _ ha).2
      simp only [inL] at e
      split at e
      · rename_i hf
        cases e
        refine .inr (.inr (.inl ⟨_, vs, rfl, .inl (.inl (.inl h1)), flat_of rv hf.1, flatL_of q hf.2, ?_⟩))
        rw [inL_of rv hf.1 q hf.2]
        exact p
      · cases e
    · rename_i xs ha
      obtain ⟨vs, h1, q⟩ := (S.obj a _ ha).2
      simp only [inL] at e
      split at e
      · rename_i hf
        cases e
        refine .inr (.inr (.inl ⟨_, vs, rfl, .inl h1.l, flat_of rv hf.1, flatL_of q hf.2, ?_⟩))
        rw [inL_of rv hf.1 q hf.2]
        exact p
      · cases e
    · rename_i kvs ha
      obtain ⟨o, e1, e2⟩ := Option.map_eq_some_iff.mp e
      obtain ⟨u, d1, d2, d3⟩ := dget_of S rv e1
      refine .inr (.inr (.inr ⟨_, u, rfl, d1, ?_⟩))
      have e3 : u.isSome = b := by
        rw [← e2]
        cases o with
        | none =>
          rw [d3 rfl]
          rfl
        | some d =>
          obtain ⟨z, ez, _⟩ := d2 d rfl
          rw [ez]
          rfl
      rw [e3]
      exact p
    · rename_i kvs ha
      obtain ⟨o, e1, e2⟩ := Option.map_eq_some_iff.mp e
      obtain ⟨u, d1, d2, d3⟩ := dget_of S rv e1
      refine .inr (.inr (.inr ⟨_, u, rfl, d1, ?_⟩))
      have e3 : u.isSome = b := by
        rw [← e2]
        cases o with
        | none =>
          rw [d3 rfl]
          rfl
        | some d =>
          obtain ⟨z, ez, _⟩ := d2 d rfl
          rw [ez]
          rfl
      rw [e3]
      exact p
    · cases e
  | _ => cases e
theorem s_cmp {o : Cop} {b : Bool} (S : Sim K r h H) (rv : RepV K r h.next H v x) (rw_ : RepV K r h.next H w y) (e : cmpD o x y h = some b) (p : Q (.bl b) H) : rCm K o v w H Q := by
  cases o with
  | eq =>
    rcases s_eqD S rv rw_ e with ⟨h1, h2⟩ | ⟨d, c, h1, h2, h3, h4, h5⟩
    · exact .inl ⟨h1, by rw [h2]; exact p⟩
    · exact .inr ⟨d, c, h1, h2, h3, h4, by rw [h5]; exact p⟩
  | ne =>
    obtain ⟨k, e1, e2⟩ := Option.map_eq_some_iff.mp (show (eqD x y h).map (fun b => !b) = some b from e)
    subst e2
    rcases s_eqD S rv rw_ e1 with ⟨h1, h2⟩ | ⟨d, c, h1, h2, h3, h4, h5⟩
    · exact .inl ⟨h1, by rw [h2]; exact p⟩
    · exact .inr ⟨d, c, h1, h2, h3, h4, by rw [h5]; exact p⟩
  | lt =>
    cases rv with
    | int i =>
      cases rw_ with
      | int j => cases e; exact ⟨_, _, rfl, rfl, p⟩
      | _ => cases e
    | _ => cases e
  | le =>
    cases rv with
    | int i =>
      cases rw_ with
      | int j => cases e; exact ⟨_, _, rfl, rfl, p⟩
      | _ => cases e
    | _ => cases e
  | gt =>
    cases rv with
    | int i =>
      cases rw_ with
      | int j => cases e; exact ⟨_, _, rfl, rfl, p⟩
      | _ => cases e
    | _ => cases e
  | ge =>
    cases rv with
    | int i =>
      cases rw_ with
      | int j => cases e; exact ⟨_, _, rfl, rfl, p⟩
      | _ => cases e
    | _ => cases e
  | isN =>
    cases rw_ with
    | non => cases rv <;> (cases e; exact .inl ⟨rfl, by simpa using p⟩)
    | bl b => cases rv <;> (cases e; try exact .inr ⟨_, _, rfl, rfl, p⟩)
    | _ => cases rv <;> cases e
  | notN =>
    cases rw_ with
    | non => cases rv <;> (cases e; exact .inl ⟨rfl, by simpa using p⟩)
    | bl b => cases rv <;> (cases e; try exact .inr ⟨_, _, rfl, rfl, p⟩)
    | _ => cases rv <;> cases e
  | inn => exact s_in S rv rw_ e false p
  | nin =>
    obtain ⟨k, e1, e2⟩ := Option.map_eq_some_iff.mp (show (inD x y h).map (fun b => !b) = some b from e)
    subst e2
    exact s_in S rv rw_ e1 true p

/-! ### items -/
theorem atD_of {xs : List D} {vs : List V} {i : Int} {d : D} (q : RepL K r h.next H vs xs) (e : atD xs i = some d) : ∃ u, atI vs i = some u ∧ RepV K r h.next H u d := by
  have hl := q.len
  unfold atD at e
  unfold L2.atI L2.ixN
  by_cases h0 : 0 ≤ i
  · rw [if_pos h0] at e ⊢
    have hi : i.toNat < xs.length := (List.getElem?_eq_some_iff.mp e).1
    rw [if_pos (show i < (vs.length : Int) by omega)]
    exact q.get e
  · rw [if_neg h0] at e ⊢
    by_cases h1 : -(xs.length : Int) ≤ i
    · rw [if_pos h1] at e
      rw [if_pos (show -(vs.length : Int) ≤ i by omega), hl]
      exact q.get e
    · rw [if_neg h1] at e
      cases e
theorem atS_of {xs : List Nat} {i : Int} {c : Nat} (e : atD xs i = some c) : atI xs i = some c := by
  unfold atD at e
  unfold L2.atI L2.ixN
  by_cases h0 : 0 ≤ i
  · rw [if_pos h0] at e ⊢
    have hi : i.toNat < xs.length := (List.getElem?_eq_some_iff.mp e).1
    rw [if_pos (show i < (xs.length : Int) by omega)]
    exact e
  · rw [if_neg h0] at e ⊢
    by_cases h1 : -(xs.length : Int) ≤ i
    · rw [if_pos h1] at e
      rw [if_pos h1]
      exact e
    · rw [if_neg h1] at e
      cases e
theorem s_idx {d : D} (S : Sim K r h H) (rv : RepV K r h.next H v x) (rw_ : RepV K r h.next H w y) (e : idxD x y h = some d) (p : PG K W r h H (RepV K) Q (.ok d) h) : rIx K v w H Q := by
  cases rw_ with
  | int i =>
    cases rv with
    | @tup a vs ds hT q =>
      obtain ⟨u, e1, q1⟩ := atD_of q e
      exact .inr (.inl ⟨a, vs, i, u, rfl, rfl, hT, e1, s_plain S q1 p⟩)
    | @ref a la =>
      simp only [idxD] at e
      split at e
      · rename_i xs ha
        obtain ⟨vs, h1, q⟩ := (S.obj a _ ha).2
        obtain ⟨u, e1, q1⟩ := atD_of q e
        exact .inl ⟨_, vs, i, u, rfl, rfl, .inl (.inl h1), e1, s_plain S q1 p⟩
      · rename_i xs ha
        obtain ⟨vs, h1, q⟩ := (S.obj a _ ha).2
        obtain ⟨u, e1, q1⟩ := atD_of q e
        exact .inl ⟨_, vs, i, u, rfl, rfl, h1.l, e1, s_plain S q1 p⟩
      · cases e
    | str z =>
      simp only [idxD] at e
      split at e
      · rename_i hl
        obtain ⟨c, e1, e2⟩ := Option.map_eq_some_iff.mp e
        subst e2
        exact .inr (.inr ⟨z, i, c, rfl, rfl, lim_le hl, atS_of e1, s_plain S (.str _) p⟩)
      · cases e
    | _ => cases e
  | _ => cases rv <;> cases e

/-! ### slices -/
theorem sI_eq : sI = HT.sIx := by
  funext n d o
  cases o <;> rfl
theorem cut_of {xs : List D} {vs : List V} (lo hi : Option Int) (q : RepL K r h.next H vs xs) : RepL K r h.next H (cutV vs lo hi) (cut xs lo hi) := by
  unfold cutV cut
  rw [sI_eq, q.len]
  exact (q.drop _).take _
theorem cut_all {xs : List D} {lo hi : Option Int} (e : HT.sIx xs.length 0 lo = 0 ∧ HT.sIx xs.length xs.length hi = xs.length) : cut xs lo hi = xs := by
  unfold cut
  rw [sI_eq, e.1, e.2]
  simp
def rSlZ (K : PySem.W.Frag) : V → Option Int → Option Int → Hp → VK → Prop := fun x lo hi H Q => rSlL K x lo hi H Q ∨ (rSlA K x lo hi H Q ∨ rSlS x lo hi H Q)
theorem z_slice {X : Cx} : SlR X (rSlZ X.K) := sl_list.or (sl_tupA.or sl_str)
theorem s_slc {lo hi : Option Int} (S : Sim K r h H) (rv : RepV K r h.next H v x) (e : slcD x lo hi h = some (res, h')) (p : PG K W r h H (RepV K) Q res h') : rSlZ K v lo hi H Q := by
  cases rv with
  | @tup a vs ds hT q =>
    cases e
    refine .inr (.inl ⟨a, vs, rfl, hT, fun al => ?_, fun _ => s_newtup S (cut_of lo hi q) p⟩)
    rw [q.len] at al
    rw [cut_all al] at p
    exact s_plain S (.tup hT q) p
  | @ref a la =>
    simp only [slcD] at e
    split at e
    · rename_i xs ha
      obtain ⟨vs, h1, q⟩ := (S.obj a _ ha).2
      cases e
      exact .inl ⟨_, vs, rfl, .inl (.inl h1), s_newlist S (cut_of lo hi q) p⟩
    · rename_i xs ha
      obtain ⟨vs, h1, q⟩ := (S.obj a _ ha).2
      cases e
      exact .inl ⟨_, vs, rfl, h1.l, s_newlist S (cut_of lo hi q) p⟩
    · cases e
  | str z =>
    simp only [slcD] at e
    split at e
    · rename_i hl
      cases e
      refine .inr (.inr ⟨z, rfl, lim_le hl, ?_⟩)
      have e1 : cutS z lo hi = cutT z lo hi := by
        unfold cutS cutT
        rw [sI_eq]
      rw [e1]
      exact s_plain S (.str _) p
    · cases e
  | _ => cases e

/-! ### truth -/
theorem s_tru {b : Bool} (S : Sim K r h H) (rv : RepV K r h.next H v x) (e : truD x h = some b) : TruV K v H b := by
  cases rv with
  | non => cases e; rfl
  | bl c => cases e; rfl
  | int i => cases e; rfl
  | exc k a => cases e
  | xob k h z f => cases e
  | str s =>
    simp only [truD] at e
    split at e
    · rename_i hl
      cases e
      exact ⟨lim_le hl, rfl⟩
    · cases e
  | @tup a vs ds hT q =>
    cases e
    refine .inr (.inl ⟨vs, hT, ?_⟩)
    cases q <;> rfl
  | @ref a la =>
    simp only [truD] at e
    split at e
    · rename_i xs ha
      obtain ⟨vs, h1, q⟩ := (S.obj a _ ha).2
      cases e
      refine .inl ⟨vs, .inl (.inl h1), ?_⟩
      cases q <;> rfl
    · rename_i xs ha
      obtain ⟨vs, h1, q⟩ := (S.obj a _ ha).2
      cases e
      refine .inl ⟨vs, h1.l, ?_⟩
      cases q <;> rfl
    · rename_i kvs ha
      obtain ⟨ws, h1, q⟩ := (S.obj a _ ha).2
      cases e
      refine .inr (.inr ⟨ws, h1, ?_⟩)
      have el : ws.length = kvs.length := by simpa using congrArg List.length q.1
      cases ws <;> cases kvs <;> first | rfl | cases el
    · cases e
end
end Z

set_option maxRecDepth 100000
set_option maxHeartbeats 4000000
/-! min(xs, default=d) of a list of whole numbers -/
namespace Z.MinD
open PySem
open Sem (wp)
def kw (d : Value) : List (Str × Value) := [(("default" : Str), d)]
section
variable {prog : Program} {w : World} {A : Around} {R : Result → Shared → Prop} {I : Addr} {fp wr : List Addr} {n : Nat} {P : Nat → Value → Prop} {St : Nat → Heap → Prop} {d : Value}
theorem nm : (toString "min" ++ toString ".loop" : String) = "min.loop" := by decide
/-- j + 1 things are taken, the best of them is noted -/
theorem on (W : Walks prog w A.in1 I fp wr n P St) (bt : Nat → Nat → Bool) (hcmp : CmpOf prog w A.in1 .Lt P bt) (S : Addr) (hSf : S ∉ fp) :
    ∀ (k j : Nat) (s : Shared) (vb : Value) (c : Nat), n - (j + 1) = k → j + 1 ≤ n → St (j + 1) s.heap → P (argBest bt j) vb →
    s.heap.get? S = some { cls := .type "list", dict := none, data := .seq #[vb, vb] c, slots := #[] } →
    (∀ v h' tk, P (argBest bt (n - 1)) v → (∀ b o, b ∉ wr → b ≠ S → s.heap.get? b = some o → h'.get? b = some o) → R (.ok (.ret v)) { s with heap := h', toks := tk }) →
    codeAny (model prog w) A (.builtin "min.loop" ⟨[.ref I, .none, .ref S], kw d⟩) R s := by
  have hSw : S ∉ wr := fun h => hSf (W.sub _ h)
  intro k
  induction k with
  | zero =>
    intro j s vb c hk hj hst hPb hS hR
    have hin : j + 1 = n := by omega
    refine codeAny_builtin F.entry_min_loop ?_
    rw [Around.under_plainId F.plain_min_loop _]
    refine wpAny_bind (wpAny_seqItems hS rfl ?_)
    show wpAny _ A.in1 (tryCatch (pyNext (.ref I)) _ >>= _) _ _ s
    refine wpAny_bind (wpAny_tryCatch (W.done s _ _ (hin ▸ hst) fun h' tk hk' => ?_))
    have hS' := hk' S _ hSw hS
    show wpAny _ A.in1 (updateSeq S (fun _ => #[]) >>= _) _ _ _
    refine wpAny_bind (wpAny_updateSeq hS' rfl (wpAny_bind (wpAny_letGo (wpAny_pure ?_))))
    exact hR vb _ tk (by rw [← hin]; exact hPb) fun b o hbw hbS e => (Heap.get?_update_other _ _ (Ne.symm hbS)).trans (hk' b o hbw e)
  | succ k ih =>
    intro j s vb c hk hj hst hPb hS hR
    have hlt : j + 1 < n := by omega
    refine codeAny_builtin F.entry_min_loop ?_
    rw [Around.under_plainId F.plain_min_loop _]
    refine wpAny_bind (wpAny_seqItems hS rfl ?_)
    show wpAny _ A.in1 (tryCatch (pyNext (.ref I)) _ >>= _) _ _ s
    refine wpAny_bind (wpAny_tryCatch (W.item (j + 1) s _ _ hlt hst fun v h' tk hP hst' hk' => ?_))
    have hS' := hk' S _ hSw hS
    show wpAny _ A.in1 (tryCatch (holding [v, v] (richCompare .Lt v vb >>= _)) _ >>= _) _ _ _
    refine wpAny_bind (wpAny_tryCatch (wpAny_holding (wpAny_bind (hcmp (j + 1) (argBest bt j) v vb _ _ _ hP hPb ?_))))
    refine wpAny_bind (wpAny_holding (wpAny_truthy_bool ?_))
    refine wpAny_bind (wpAny_letGo (wpAny_pure ?_))
    cases hb : bt (j + 1) (argBest bt j) with
    | true =>
      simp only [if_true]
      refine wpAny_bind (wpAny_updateSeq hS' rfl (wpAny_bind (wpAny_letGo ?_)))
      rw [nm]
      refine wpAny_pure ⟨plainId_quiet F.plain_min_loop _, ih (j + 1) _ v _ (by omega) hlt (W.frame _ _ _ hst' fun b hbf o e => ?_) (by simp only [argBest, hb, if_true]; exact hP) (Heap.get?_update_self _ hS' rfl)
        fun v' h'' tk'' hP' hk'' => hR v' h'' tk'' hP' fun b o hbw hbS e => hk'' b o hbw hbS ((Heap.get?_update_other _ _ (Ne.symm hbS)).trans (hk' b o hbw e))⟩
      exact (Heap.get?_update_other _ _ (fun h : S = b => hSf (by rw [h]; exact hbf))).trans e
    | false =>
      simp only [Bool.false_eq_true, if_false]
      refine wpAny_bind (wpAny_letGo ?_)
      rw [nm]
      exact wpAny_pure ⟨plainId_quiet F.plain_min_loop _, ih (j + 1) _ vb c (by omega) hlt hst' (by simp only [argBest, hb, Bool.false_eq_true, if_false]; exact hPb) hS'
        fun v' h'' tk'' hP' hk'' => hR v' h'' tk'' hP' fun b o hbw hbS e => hk'' b o hbw hbS (hk' b o hbw e)⟩
/-- nothing is taken yet: the default where there is nothing -/
theorem first (W : Walks prog w A.in1 I fp wr n P St) (bt : Nat → Nat → Bool) (hcmp : CmpOf prog w A.in1 .Lt P bt) (S : Addr) (hSf : S ∉ fp) {s : Shared} {c : Nat} (hst : St 0 s.heap)
    (hS : s.heap.get? S = some { cls := .type "list", dict := none, data := .seq #[] c, slots := #[] })
    (hR : ∀ v h' tk, (n = 0 → v = d) → (0 < n → P (argBest bt (n - 1)) v) → (∀ b o, b ∉ wr → b ≠ S → s.heap.get? b = some o → h'.get? b = some o) → R (.ok (.ret v)) { s with heap := h', toks := tk }) :
    codeAny (model prog w) A (.builtin "min.loop" ⟨[.ref I, .none, .ref S], kw d⟩) R s := by
  have hSw : S ∉ wr := fun h => hSf (W.sub _ h)
  refine codeAny_builtin F.entry_min_loop ?_
  rw [Around.under_plainId F.plain_min_loop _]
  refine wpAny_bind (wpAny_seqItems hS rfl ?_)
  show wpAny _ A.in1 (tryCatch (pyNext (.ref I)) _ >>= _) _ _ s
  rcases Nat.eq_zero_or_pos n with hn | hn
  · refine wpAny_bind (wpAny_tryCatch (W.done s _ _ (hn ▸ hst) fun h' tk hk' => ?_))
    refine wpAny_bind (wpAny_rule (wpAny_pure ?_))
    exact hR d h' tk (fun _ => rfl) (fun h => absurd h (by omega)) fun b o hbw _ e => hk' b o hbw e
  · refine wpAny_bind (wpAny_tryCatch (W.item 0 s _ _ hn hst fun v h' tk hP hst' hk' => ?_))
    have hS' := hk' S _ hSw hS
    refine wpAny_bind (wpAny_pure ?_)
    refine wpAny_bind (wpAny_updateSeq hS' rfl ?_)
    rw [nm]
    refine wpAny_pure ⟨plainId_quiet F.plain_min_loop _, on W bt hcmp S hSf _ 0 _ v _ rfl hn (W.frame _ _ _ hst' fun b hbf o e => ?_) hP (Heap.get?_update_self _ hS' rfl)
      fun v' h'' tk'' hP' hk'' => hR v' h'' tk'' (fun h => absurd h (by omega)) (fun _ => hP') fun b o hbw hbS e => hk'' b o hbw hbS ((Heap.get?_update_other _ _ (Ne.symm hbS)).trans (hk' b o hbw e))⟩
    exact (Heap.get?_update_other _ _ (fun h : S = b => hSf (by rw [h]; exact hbf))).trans e
end
section
variable {prog : Program} {w : World} {A : Around} {E : Value → Shared → Prop} {s : Shared} {d : Value}
theorem args (a : Value) : argsOk "min" ⟨[a], kw d⟩ := by unfold argsOk kw; kernel_rfl
theorem call_ (hh : A.handled = none) {l : Addr} {xs : Array (Int × Tok)} {Q : Value → Shared → Prop} (hl : s.heap.IsList l (PySem.intItems xs))
    (h : ∀ v h' tk, (xs.size = 0 → v = d) → (0 < xs.size → (PySem.intItems xs)[argBest (fun i j => decide (numAt xs i < numAt xs j)) (xs.size - 1)]? = some v) → (∀ b o, s.heap.get? b = some o → h'.get? b = some o) → Q v { s with heap := h', toks := tk }) :
    wpAny (model prog w) A (call (.builtin "min") [.ref l] (kw d)) Q E s := by
  refine wpAny_call (codeAny_call_builtin F.plain_min F.entry_min ?_)
  have body : wpAny (model prog w) A.in1 (Builtin.«min» ⟨[.ref l], kw d⟩) (fun fin s' => match fin with
      | .done f => (match (Except.ok f : Result) with | .ok (.ret v) => Q v s' | .ok _ => False | .error e => E e s')
      | .again c' => c'.quiet = true ∧ codeAny (model prog w) A c' (fun r s' => match r with | .ok (.ret v) => Q v s' | .ok _ => False | .error e => E e s') s') E s := by
    show wpAny _ A.in1 (Builtin.Builtins.bindParams "min" ["key", "default"] 0 ⟨[], kw d⟩ >>= _) _ _ s
    refine wpAny_bind (wpAny_of_eq (show Builtin.Builtins.bindParams "min" ["key", "default"] 0 ⟨[], kw d⟩ = pure [none, some d] from rfl) ?_)
    refine wpAny_bind (wpAny_pure ?_)
    refine wpAny_bind (iter_intList hl fun s₂ e st hfp hlI => ?_)
    subst e
    refine wpAny_bind (wpAny_newObj_type ?_)
    have W := Walks.list (prog := prog) (w := w) (A := A.in1) hh s.heap.objs.size l hlI (PySem.intItems xs)
    rw [nm]
    refine wpAny_pure ⟨plainId_quiet F.plain_min_loop _, first W _ (CmpOf.ints_lt (numAt xs) (fun _ _ => intItems_at)) _ (fun hm => Nat.lt_irrefl _ (hfp _ hm)) (W.frame _ _ _ st fun b _ o e => Heap.get?_push_of_some _ e) (Heap.get?_push_size _ rfl) fun v h' tk h1 h2 hk => ?_⟩
    have hz : (PySem.intItems xs).size = xs.size := by simp [PySem.intItems]
    rw [hz] at h1 h2
    exact h v h' tk h1 h2 (old_kept fun b o hb e => hk b o hb (Nat.ne_of_lt (Heap.lt_size e)) (Heap.get?_push_of_some _ e))
  simp only [checkBuiltinCall, F.kind_min]
  cases hsig : Manifest.signature? "min" with
  | none => exact wpAny_pure body
  | some sig =>
    have ha := args (d := d) (.ref l)
    simp only [argsOk, hsig] at ha
    have h2 : Bind.checkArgs "min" sig ⟨[.ref l], kw d⟩ = pure () := ha
    show wpAny _ A.in1 (Bind.checkArgs "min" sig ⟨[.ref l], kw d⟩) _ _ s
    rw [h2]; exact wpAny_pure body
end
end Z.MinD

set_option maxRecDepth 100000
set_option maxHeartbeats 4000000
/-! ZS: an error that its suite hands on (x = e): it stands from then on as a known thing; isinstance of such a one. -/
namespace Z.Kept
open PySem L2
section
variable {X : Cx} {pins : List (Addr × Obj)} {σ : L2.St} {H : Hp} {s : Shared} {a : Addr} {oe : Obj}
/-- the pinned error becomes a known thing -/
theorem known (I : Inv X ((a, oe) :: pins) σ H s) (f0 : X.s_0.heap.get? a = none) (fp : ∀ p ∈ X.pn ++ pins, p.1 ≠ a) : Inv X pins σ (upd H a (.frz oe xT)) s := by
  obtain ⟨ha, na, nL, nF, nc⟩ := I.pin (a, oe) (by simp)
  have other : ∀ {b : Addr} {u : HO}, H b = some u → upd H a (.frz oe xT) b = some u := fun {b u} e => by
    have : b ≠ a := by rintro rfl; rw [na] at e; cases e
    rw [upd_ne this]; exact e
  refine ⟨I.ok, I.os, I.bare, ⟨I.base.keep, I.base.slot, ?_, I.base.there, ?_, ?_, ?_⟩, I.loc, I.cell, ?_, ?_, ?_, ?_, I.len⟩
  · intro b o e n x
    have : b ≠ a := by rintro rfl; rw [f0] at e; cases e
    rw [upd_ne this]
    exact I.base.free b o e n x
  · exact fun b xs e => other (I.base.tups b xs e)
  · exact fun b o u e => other (I.base.frzs b o u e)
  · intro b ps e
    obtain ⟨more, q⟩ := I.base.tbls b ps e
    exact ⟨more, other q⟩
  · rw [upd_ne (Ne.symm nL)]
    exact I.free
  · intro x c e
    have : c ≠ a := by
      rintro rfl
      obtain ⟨v, o, ho, hd⟩ := I.cell x c e
      rw [ha] at ho
      cases ho
      exact nc v hd
    rw [upd_ne this]
    exact I.freeC x c e
  · intro p hp
    obtain ⟨z1, z2, z3⟩ := I.pin p (by rcases List.mem_append.mp hp with h | h <;> simp [h])
    exact ⟨z1, by rw [upd_ne (fp p hp)]; exact z2, z3⟩
  · intro b u e
    by_cases hb : b = a
    · subst hb
      rw [upd_same] at e
      cases e
      exact ⟨ha, trivial, ⟨oe, ha⟩, fun _ _ _ _ => trivial⟩
    · rw [upd_ne hb] at e
      exact (I.hok b u e).stay (fun _ _ _ q => q) (fun _ q => other q) fun _ _ q => other q
end
/-- what such a suite's end is -/
def ends (i : Nat) (a : Addr) (oe : Obj) (D : Ends) : Ends := { nx := fun σ H => D.nx (σ.set i none) (upd H a (.frz oe xT)), rt := fun _ _ => False }
/-- the wish of an error of the body -/
def wish (K : PySem.W.Frag) (c : Value) (i : Nat) (ts : Addr → TS) (D : Ends) : WX := fun cls d σ H =>
  PySem.W.exmOne K cls c = some true ∧ ∀ a oe, H a = none → Zc cls d oe → (∃ vs, oe.data = .fields vs) → ts a (ends i a oe D) (σ.set i (some (.ref a))) H
section
variable {X : Cx} {x n : Str} {c : Value} {i : Nat} {body suite : List Stmt} {b₀ : Stmt} {np pos pos' : Pos} {tb : WX → TS} {ts : Addr → TS}
theorem ps_keep (hs : X.stack = X.env :: X.outer) (hf : X.env.frame = some X.env.locals) (hN : X.N.Nodup) (hi : X.N[i]? = some n) (hln : X.env.kindOf n = some .local) (hg : Gl X x) (hm : X.mg x = some c) (hdb : (x == ("__debug__" : Str)) = false) (hex : X.ex = [])
    (hb : ∀ (W : WX) (pn : List (Addr × Obj)) (xe : Value → Shared → Prop), Takes (X.tr pn xe) W → PassesOwn (model X.prog X.w) X.A X.env xe → PSs (X.tr pn xe) body (tb W))
    (hsu : ∀ (a : Addr) (oe : Obj) (pn : List (Addr × Obj)), PSs (X.suite a ((a, oe) :: pn)) (b₀ :: suite) (ts a)) :
    PS X (.Try body [.ExceptHandler (some (.Name x np)) (some n) (b₀ :: suite) pos'] [] [] pos) (fun D σ H => tb (wish X.K c i ts D) D σ H) := by
  constructor
  intro pins s σ H D I h
  have hfr : X.A.frames = some (X.env :: X.outer) := I.ok.frames.trans (congrArg some hs)
  refine wpAny_Try_except ?_
  have run := (hb (wish X.K c i ts D) (X.pn ++ pins) (fun e s₁ => wpAny (model X.prog X.w) X.A (noteFrame e X.env) (fun _ s₂ => wpAny (model X.prog X.w) X.A (setFlight e none)
    (fun _ s₃ => wpAny (model X.prog X.w) X.A (handleBy e X.env [.ExceptHandler (some (.Name x np)) (some n) (b₀ :: suite) pos']) (SP X pins D) X.xe s₃) X.xe s₂) X.xe s₁) ?tk PassesOwn.looking).run [] s σ H D (I.toTry _) h
  case tk =>
    intro u s1 xx
    obtain ⟨a, B, sI, pins1, σ1, H1, cls, d, rfl, J1, nb, up, sky, na, os, ag, hx, hts⟩ := xx
    have J := J1.ofTry I.ok
    show wpAny (model X.prog X.w) X.A (noteFrame (.ref a) X.env) _ _ _
    refine Sky.land Zc.steady hfr hf (by rw [← hs]; exact sky) fun h2 fl up2 => ?_
    obtain ⟨oe2, vs2, he2, hz2, hd2⟩ := fl.there
    have apart : a ∉ frs (X.env :: X.outer) := fun hm => by
      obtain ⟨_, o, ho, hn⟩ := fl.2.2.1.mem hm
      rw [he2] at ho
      cases ho
      exact hn _ hd2
    have nL : a ≠ X.env.locals := fun z => apart (List.mem_filterMap.mpr ⟨X.env, by simp, by rw [hf, z]⟩)
    have nF : a ∉ X.fs := fun hm => by
      obtain ⟨e, he, q⟩ := List.mem_filterMap.mp hm
      exact apart (List.mem_filterMap.mpr ⟨e, by simp [he], q⟩)
    have new : sI.heap.get? a = none := by
      cases q : sI.heap.get? a with
      | none => rfl
      | some o =>
        have z := nb a o q (by show a ∉ frs X.stack; rw [hs]; exact apart)
        rw [fl.2.1] at z
        cases z
    have J2 : Inv X pins σ1 H1 { s1 with heap := h2 } := J.landed nb fl.1 (up.trans up2) os ag
    have S2 := J2.suite he2 hd2 na nL nF
    refine PX.clause_asZ (c := c) J2.kIn (fun o z => z.1) fl hx (fun {Q E} q => ld_glob (X := X.suite a ((a, oe2) :: (X.pn ++ pins))) S2 hg hm q hdb) fun h3 fl3 up3 => ?_
    obtain ⟨oe3, vs3, he3, hz3, hd3⟩ := fl3.there
    have J3 : Inv X pins σ1 H1 { s1 with heap := h3 } := J.landed nb fl3.1 ((up.trans up2).trans up3) os ag
    have S3 := J3.suite he3 hd3 na nL nF
    refine store_ok (X := X.suite a ((a, oe3) :: (X.pn ++ pins))) (v := .ref a) S3 hN hi (.inl hln) rfl (fun s4 S4 => ?_) (.inr hln)
    have w := (hsu a oe3 (X.pn ++ pins)).run [] s4 _ H1 _ S4 (hts a oe3 na hz3 ⟨_, hd3⟩)
    refine wpAny_mono w (fun f s5 z => ?_) fun _ _ z => z
    cases f with
    | next =>
      obtain ⟨σ5, H5, S5, q5⟩ := z
      have I5 : Inv X ((a, oe3) :: pins) σ5 H5 s5 := ⟨I.ok, S5.os, S5.bare, S5.base, S5.loc, S5.cell, S5.free, S5.freeC,
        fun p hp => S5.pin p (by
          rcases List.mem_append.mp hp with hp | hp
          · simp [hp]
          · rcases List.mem_cons.mp hp with hp | hp <;> simp [hp]), S5.hok, S5.len⟩
      refine gone_ok I5 hN hi hln fun s6 I6 => ⟨_, _, known I6 ?_ ?_, q5⟩
      · cases q : X.s_0.heap.get? a with
        | none => rfl
        | some o =>
          obtain ⟨o', z⟩ := J.base.there a o q (by
            rw [hex]
            simp)
          rw [new] at z
          cases z
      · intro p hp e
        have z := (J.pin p hp).1
        rw [e, new] at z
        cases z
    | brk => obtain ⟨_, _, _, q⟩ := z; cases q
    | cont => obtain ⟨_, _, _, q⟩ := z; cases q
    | ret u => obtain ⟨_, _, _, _, _, q⟩ := z; cases q
  exact wpAny_mono run (fun f s1 hsp => by
    cases f with
    | next => obtain ⟨σ1, H1, J, q⟩ := hsp; exact wpAny_execs_nil ⟨σ1, H1, J.ofTry I.ok, q⟩
    | brk => obtain ⟨σ1, H1, J, q⟩ := hsp; exact ⟨σ1, H1, J.ofTry I.ok, q⟩
    | cont => obtain ⟨σ1, H1, J, q⟩ := hsp; exact ⟨σ1, H1, J.ofTry I.ok, q⟩
    | ret u => obtain ⟨v, σ1, H1, J, r, q⟩ := hsp; exact ⟨v, σ1, H1, J.ofTry I.ok, r, q⟩) fun e s1 z => z
end
/-- isinstance of such an error -/
def rIsO (K : PySem.W.Frag) : List V → Hp → VK → Prop := fun xs H Q => ∃ (a D : Addr) (oe : Obj) (c : V) (cv : Value) (b : Bool), xs = [.ref a, c] ∧ H a = some (.frz oe xT) ∧ Zc (.ref D) none oe ∧ (∃ vs, oe.data = .fields vs) ∧ ExcC K D ∧ (∀ u, RelV c u → u = cv) ∧
  PySem.W.kitOne K (.ref D) cv = some b ∧ Q (.bl b) H
theorem call_isO {X : Cx} : CallR X (.builtin "isinstance") (rIsO X.K) := by
  intro pins s σ H xs us Q I r h
  obtain ⟨a, D, oe, c, cv, b, rfl, ha, ⟨z1, z2⟩, ⟨vs, hv⟩, C, hcv, e, q⟩ := h
  obtain ⟨u1, u2, rfl, r1, r2⟩ : ∃ u1 u2, us = [u1, u2] ∧ RelV (.ref a) u1 ∧ RelV c u2 := by
    cases r with
    | cons r1 r =>
      cases r with
      | cons r2 r =>
        cases r
        exact ⟨_, _, rfl, r1, r2⟩
  cases r1
  have e2 := hcv _ r2
  subst e2
  have at_ : s.heap.get? a = some oe := (I.hok a _ ha).1
  have J : PySem.W.InstAt s.heap a oe D none := by
    obtain ⟨oc, od, oda, osl⟩ := oe
    cases z1
    cases z2
    cases hv
    exact ⟨at_, rfl, rfl, trivial⟩
  refine PySem.W.kia_one (PySem.W.handS_kitx_exc C.hg C.hk C.hs C.hd C.ha C.hn C.ht C.hm) I.kIn J e (fun z => nomatch z) fun tk => ?_
  exact ⟨.bl b, H, I.kept (t' := tk) fun _ _ z => z, rfl, q⟩
end Z.Kept

set_option maxRecDepth 100000
set_option maxHeartbeats 1000000
/-! ZG: built-in functions and methods. -/
namespace Z
open PySem L2

abbrev rLenD : List V → Hp → VK → Prop := fun xs H Q => ∃ a kvs, xs = [V.ref a] ∧ H a = some (.dK kvs) ∧ Q (.int kvs.length) H
abbrev rLenA (K : PySem.W.Frag) : List V → Hp → VK → Prop := fun xs H Q => ∃ x n, xs = [x] ∧ LenV K x H n ∧ Q (.int n) H
abbrev rInt1 : List V → Hp → VK → Prop := fun xs H Q => (∃ i, xs = [.int i] ∧ Q (.int i) H) ∨ ∃ k, xs = [.bl k] ∧ Q (.int (if k then 1 else 0)) H
abbrev rIntS : List V → Hp → VK → Prop := fun xs H Q => ∃ a n, xs = [.str a] ∧ PySem.intText? a = some n ∧ a.length ≤ 640 ∧ Q (.int n) H
abbrev rStrI : List V → Hp → VK → Prop := fun xs H Q => ∃ i, xs = [.int i] ∧ i.natAbs.log2 < 1920 ∧ Q (.str (toString i)) H
abbrev rListA (K : PySem.W.Frag) : List V → Hp → VK → Prop := fun xs H Q => ∃ p ys, xs = [.ref p] ∧ (SqL K H p ys ∨ SqT K H p ys) ∧ ∀ l, H l = none → Q (.ref l) (upd H l (.lst ys))
abbrev rTupleA (K : PySem.W.Frag) : List V → Hp → VK → Prop := fun xs H Q => ∃ p ys, xs = [.ref p] ∧ ((SqL K H p ys ∧ ∀ l, H l = none → Q (.ref l) (upd H l (.tup ys))) ∨ (SqT K H p ys ∧ Q (.ref p) H))
abbrev rDictA : List V → Hp → VK → Prop := fun xs H Q => ∃ (a : Addr) (kvs : List (Key × V)), xs = [.ref a] ∧ Rd H a (.dK kvs) ∧ ∀ p, H p = none → Q (.ref p) (upd H p (.dK kvs))
abbrev rMin2 : List V → Hp → VK → Prop := fun xs H Q => ∃ i j, xs = [.int i, .int j] ∧ Q (.int (if j < i then j else i)) H
abbrev rMax2 : List V → Hp → VK → Prop := fun xs H Q => ∃ i j, xs = [.int i, .int j] ∧ Q (.int (if j > i then j else i)) H
abbrev rSrtD : List V → Hp → VK → Prop := fun xs H Q => ∃ (a : Addr) (kvs : List (Key × V)) (ks : List Int), xs = [.ref a] ∧ Rd H a (.dK kvs) ∧ kvs.map (·.1) = ks.map Sum.inl ∧ ks.length < 900000 ∧
    ∀ (ys : List Int) (p : Addr), ys.Perm ks → ys.Pairwise (· ≤ ·) → H p = none → Q (.ref p) (upd H p (.lst (ys.map V.int)))
abbrev rDivmod : List V → Hp → VK → Prop := fun xs H Q => ∃ i j, xs = [.int i, .int j] ∧ CDivP i j ∧ ∀ p, H p = none → Q (.ref p) (upd H p (.tup [.int (i / j), .int (i % j)]))
abbrev rAbs : List V → Hp → VK → Prop := fun xs H Q => ∃ i, xs = [.int i] ∧ Q (.int (if i < 0 then -i else i)) H
def rListDk : List V → Hp → VK → Prop := fun xs H Q => ∃ (a : Addr) (kvs : List (Key × V)), xs = [.ref a] ∧ Rd H a (.dK kvs) ∧ ∀ p, H p = none → Q (.ref p) (upd H p (.lst (kvs.map fun kv => kV kv.1)))
abbrev rMinD (K : PySem.W.Frag) : List V → Hp → VK → Prop := fun xs H Q => ∃ (a : Addr) (ns : List Int) (d : Int), xs = [.ref a, .int d] ∧ SqL K H a (ns.map V.int) ∧ Q (.int (lmin d ns)) H
abbrev rLset (K : PySem.W.Frag) : List V → Hp → VK → Prop := fun xs H Q => ∃ (a : Addr) (ns : List Int), xs = [.ref a] ∧ SqL K H a (ns.map V.int) ∧ ns.Nodup ∧ ns.length ≤ 4000 ∧ Q (.int (ns.length : Nat)) H
def rMinDk (K : PySem.W.Frag) : List V → List V → Hp → VK → Prop
  | [x], [y] => rMinD K [x, y]
  | _, _ => fun _ _ => False
theorem cr_minD {X : Cx} (hc : X.calm = true) : CallRK X (.builtin "min") [Str.ofString "default"] (rMinDk X.K) := by
  intro pins s σ H vs zs us ws Q I r rz h
  cases r with
  | nil => exact h.elim
  | cons r1 rr =>
    cases rr with
    | cons _ _ => exact h.elim
    | nil =>
      cases rz with
      | nil => exact h.elim
      | cons z1 zr =>
        cases zr with
        | cons _ _ => exact h.elim
        | nil =>
          obtain ⟨a, ns, d, e, hs, q⟩ := h
          cases e
          obtain ⟨its, rv, hl, _⟩ := I.list hs
          cases r1
          obtain ⟨td, rfl⟩ := z1
          have hi := rv.ints
          obtain ⟨xs, e⟩ := hi.allInts.items
          have hn : numsOf (intItems xs).toList = ns := by rw [← e]; exact hi.numsOf
          rw [nums_intItems] at hn
          have hl' := hl.isList
          rw [e] at hl'
          refine MinD.call_ (I.ok.hd hc) hl' fun v h' tk h1 h2 hk => ?_
          have hsz : xs.size = ns.length := by rw [← hn, List.length_map, Array.length_toList]
          obtain ⟨t, rfl⟩ : ∃ t, v = .int (lmin d ns) t := by
            by_cases h0 : ns = []
            · rw [h1 (by rw [hsz, h0]; rfl), h0]
              exact ⟨td, rfl⟩
            · have hp : 0 < xs.size := by rw [hsz]; exact List.length_pos_iff.mpr h0
              obtain ⟨t, ht⟩ := intItems_at (h2 hp)
              obtain ⟨q1, q2⟩ := argBest_lt (numAt xs) (xs.size - 1)
              refine ⟨t, ht.trans (congrArg (fun z => Value.int z t) (lmin_eq d _ ns (fun z => absurd z h0) fun _ => ⟨?_, fun a ha => ?_⟩))⟩
              · rw [numAt_eq, hn]; exact PySem.getD_mem (by omega)
              · rw [← hn] at ha
                obtain ⟨j, hj, rfl⟩ := PySem.mem_getD ha
                rw [List.length_map, Array.length_toList] at hj
                rw [← numAt_eq]; exact q2 j (by omega)
          exact ⟨.int _, H, I.kept hk, ⟨_, rfl⟩, q⟩
open PyProof.Rows in
/-- a dict's keys sorted, as many as there are -/
theorem call_srtD {X : Cx} (calm : X.calm = true) : CallR X (.builtin "sorted") rSrtD := by
  rintro pn0 st sg hp0 args vals Post J rr ⟨ad, prs, kys, rfl, rdd, hky, lim, post⟩
  obtain ⟨u0, rfl, ru⟩ := vals1 rr
  cases ru
  obtain ⟨z0, lo0, vs0, rel0, dd0⟩ := dk_rd J.hok rdd
  obtain ⟨ep0, hat0⟩ := dd0.dictAt
  have keyE : vs0.map (·.1) = kys.map Sum.inl := rel0.keys.symm.trans hky
  have lenE : vs0.length = kys.length := by simpa using congrArg List.length keyE
  have sz : sizeLine ≥ 900000 := by rw [sizeLine_eq]; omega
  refine Calls.call_function_entry PyProof.Rows.kind_sorted PyProof.Rows.plain_sorted PyProof.Rows.entry_sorted (PyProof.Rows.args_sorted1 (.ref ad)) ?_
  unfold Builtin.«sorted»
  refine wpAny_bind (m := checkCount "sorted" 1 1 _) (wpAny_pure ?_)
  refine wpAny_bind (PySem.W.kdu_collect (A := X.A.in1) (PySem.W.kdl_dict (knd := mixKind X.prog X.w) (kvs := vs0) (ep := ep0) lo0) (J.ok.hd calm) hat0 (by rw [lenE]; omega) fun hh tt ac hkk hac => ?_)
  have aL : ac.toList.length = kys.length := by rw [Array.length_toList, hac.1, lenE]
  have areI : IntsAre ac.toList kys := by
    refine ints_each aL fun j v ev => ?_
    obtain ⟨k1, x1, w1, w2⟩ := hac.2 j v (by rw [Array.getElem?_toList] at ev; exact ev)
    have w3 : (kys.map (Sum.inl : Int → Key))[j]? = some k1 := by rw [← keyE, List.getElem?_map, w1]; rfl
    rw [List.getElem?_map] at w3
    obtain ⟨y1, w4, w5⟩ := Option.map_eq_some_iff.mp w3
    subst w5
    rcases keyIs_shape (show keyIs (Sum.inl y1) v = true from w2) with ⟨i1, t1, ek, ev1⟩ | ⟨i1, t1, ek, _⟩
    · cases ek; exact ⟨y1, t1, w4, ev1⟩
    · cases ek
  have J1 : Inv X pn0 sg hp0 { st with heap := hh, toks := tt } := J.kept hkk
  refine wpAny_bind (wpAny_newList ?_ (by rw [aL]; omega))
  have hoA : (hh.push (seqObj "list" ac.toList.toArray 0)).get? hh.objs.size = some (seqObj "list" ac.toList.toArray 0) := Heap.get?_push_size _ rfl
  show wpAny _ _ _ _ _ { st with heap := hh.push (seqObj "list" ac.toList.toArray 0), toks := tt }
  refine wpAny_bind (wpAny_holding (wpAny_call_entry PyProof.Rows.slot_list_sort ⟨_, hoA, rfl⟩ PyProof.Rows.entry_list_sort
    (SrtO.list_sort_ord SrtO.swo_int hoA (by rw [aL]; omega) (fun two => SrtO.ints_sortable areI two) fun out o1 o2 => ⟨.none, rfl, ?_⟩) (PyProof.Rows.args_list_sort (.ref hh.objs.size))))
  obtain ⟨k1, k2, k3⟩ := SrtO.ints_out areI o1 o2
  obtain ⟨ef, hef⟩ := PyProof.Rows.sortedHeap_at (vs := ac.toList) (out := out.toArray) hoA
  have outL : ((out.map SrtO.iv).map V.int).length ≤ sizeLine := by
    rw [List.length_map]
    have := k2.length_eq
    omega
  refine wpAny_pure ⟨_, rfl, .ref hh.objs.size, upd hp0 hh.objs.size (.lst ((out.map SrtO.iv).map V.int)), J1.laid (t' := tt) (fun b u eb => ?_) (Nat.le_refl _) ⟨outL, out, ef, vals_of_ints k1, hef⟩, rfl, post _ _ k2 k3 (J1.hok.fresh (Nat.le_refl _))⟩
  have lt : b < hh.objs.size := Heap.lt_size eb
  rw [PyProof.Rows.sortedHeap_old (Nat.ne_of_lt lt) (by rw [size_push']; exact Nat.lt_succ_of_lt lt)]
  exact Heap.get?_push_of_some _ eb
def rBi (K : PySem.W.Frag) : Bi → List V → Hp → VK → Prop
  | .len => fun xs H Q => rLenA K xs H Q ∨ rLenD xs H Q
  | .int => fun xs H Q => rInt1 xs H Q ∨ rIntS xs H Q
  | .str => rStrI
  | .list => fun xs H Q => rListA K xs H Q ∨ rListDk xs H Q
  | .tuple => rTupleA K
  | .dict => rDictA
  | .min2 => rMin2
  | .max2 => rMax2
  | .minD => rMinD K
  | .sum => rSum K
  | .sorted => fun xs H Q => rSortedI K xs H Q ∨ rSrtD xs H Q
  | .divmod => rDivmod
  | .abs => rAbs
  | .any => rAny K
  | .lset => rLset K
section
variable {X : Cx}
theorem z_len : CallR X (.builtin "len") (rBi X.K .len) := CallR.or (r := rLenA X.K) (r' := rLenD) call_len call_lenD
theorem z_int : CallR X (.type "int") (rBi X.K .int) := CallR.or (r := rInt1) (r' := rIntS) call_int1 call_int_str
theorem z_str : CallR X (.type "str") (rBi X.K .str) := call_str_int
theorem z_list (hc : X.calm = true) : CallR X (.type "list") (rBi X.K .list) := CallR.or (r := rListA X.K) (r' := rListDk) call_list_of (call_listD hc)
theorem z_tuple : CallR X (.type "tuple") (rBi X.K .tuple) := call_tuple_of
theorem z_dict : CallR X (.type "dict") (rBi X.K .dict) := call_dictD
theorem z_min2 (hc : X.calm = true) : CallR X (.builtin "min") (rBi X.K .min2) := call_min2 hc
theorem z_max2 (hc : X.calm = true) : CallR X (.builtin "max") (rBi X.K .max2) := call_max2 hc
theorem z_sum (hc : X.calm = true) : CallR X (.builtin "sum") (rBi X.K .sum) := cr_sum hc
theorem z_any (hc : X.calm = true) : CallR X (.builtin "any") (rBi X.K .any) := cr_any hc
theorem z_sorted (hc : X.calm = true) : CallR X (.builtin "sorted") (rBi X.K .sorted) := CallR.or (r := rSortedI X.K) (r' := rSrtD) cr_sortedI (call_srtD hc)
theorem z_divmod : CallR X (.builtin "divmod") (rBi X.K .divmod) := call_divmodW
theorem z_abs : CallR X (.builtin "abs") (rBi X.K .abs) := call_abs
end

/-! ### sorting -/
theorem insI_perm (x : Int) : ∀ l : List Int, (insI x l).Perm (x :: l)
  | [] => .refl _
  | y :: ys => by
    unfold insI
    split
    · exact .refl _
    · exact ((insI_perm x ys).cons y).trans (.swap x y ys)
theorem srt_perm : ∀ l : List Int, (srt l).Perm l
  | [] => .refl _
  | x :: xs => (insI_perm x _).trans ((srt_perm xs).cons x)
theorem insI_sorted (x : Int) : ∀ l : List Int, l.Pairwise (· ≤ ·) → (insI x l).Pairwise (· ≤ ·)
  | [], _ => by simp [insI]
  | y :: ys, h => by
    unfold insI
    have h1 := List.pairwise_cons.mp h
    split
    · rename_i hxy
      refine List.pairwise_cons.mpr ⟨fun z hz => ?_, h⟩
      rcases List.mem_cons.mp hz with rfl | hz
      · exact hxy
      · exact Int.le_trans hxy (h1.1 z hz)
    · rename_i hxy
      refine List.pairwise_cons.mpr ⟨fun z hz => ?_, insI_sorted x ys h1.2⟩
      rcases List.mem_cons.mp ((insI_perm x ys).mem_iff.mp hz) with rfl | hz
      · omega
      · exact h1.1 z hz
theorem srt_sorted : ∀ l : List Int, (srt l).Pairwise (· ≤ ·)
  | [] => .nil
  | x :: xs => insI_sorted x _ (srt_sorted xs)

section
variable {K : PySem.W.Frag} {W : XK} {r : Rho} {h h' : Hm} {H : Hp} {Q : VK} {res : Except String D} {v w : V} {x y : D} {vs : List V} {ds : List D}
theorem s_newdict (S : Sim K r h H) {ws : List (Key × V)} {kvs : List (Key × D)} (q : RepK K r h.next H ws kvs) (p : PG K W r h H (RepV K) Q (.ok (.ref h.next)) (h.new (.dic kvs))) : ∀ a, H a = none → Q (.ref a) (upd H a (.dK ws)) := by
  intro a ha
  have x1 := (Free.extN (K := K) (r := r) (n := h.next) (u := .dK ws) (.inl ha))
  have S1 : Sim K (rn r h.next a) (h.new (.dic kvs)) (upd H a (.dK ws)) := S.new ha rfl ⟨ws, upd_same, RepK.ext x1 q⟩
  have e : V.ref a = .ref (rn r h.next a h.next) := by rw [rn_at]
  exact p _ _ _ S1 x1 (by rw [e]; exact .ref (Nat.lt_succ_self _))
theorem seqOf_of (S : Sim K r h H) (rv : RepV K r h.next H v x) {xs : List D} (e : seqOf x h = some xs) : ∃ p vs, v = .ref p ∧ (SqL K H p vs ∨ SqT K H p vs) ∧ RepL K r h.next H vs xs := by
  cases rv with
  | tup hT q => cases e; exact ⟨_, _, rfl, .inr hT, q⟩
  | @ref a la =>
    simp only [seqOf] at e
    split at e
    · rename_i ys ha
      cases e
      obtain ⟨vs, h1, q⟩ := (S.obj a _ ha).2
      exact ⟨_, vs, rfl, .inl (.inl (.inl h1)), q⟩
    · rename_i ys ha
      cases e
      obtain ⟨vs, h1, q⟩ := (S.obj a _ ha).2
      exact ⟨_, vs, rfl, .inl h1.l, q⟩
    · cases e
  | _ => cases e
theorem lstOf_of (S : Sim K r h H) (rv : RepV K r h.next H v x) {xs : List D} (e : lstOf x h = some xs) : ∃ p vs, v = .ref p ∧ SqL K H p vs ∧ RepL K r h.next H vs xs := by
  cases rv with
  | @ref a la =>
    simp only [lstOf] at e
    split at e
    · rename_i ys ha
      cases e
      obtain ⟨vs, h1, q⟩ := (S.obj a _ ha).2
      exact ⟨_, vs, rfl, .inl (.inl h1), q⟩
    · rename_i ys ha
      cases e
      obtain ⟨vs, h1, q⟩ := (S.obj a _ ha).2
      exact ⟨_, vs, rfl, h1.l, q⟩
    · cases e
  | _ => cases e
theorem one_of {d : D} (q : RepL K r h.next H vs [d]) : ∃ v, vs = [v] ∧ RepV K r h.next H v d := by
  cases q with
  | cons a b => cases b; exact ⟨_, rfl, a⟩
theorem two_of {d e : D} (q : RepL K r h.next H vs [d, e]) : ∃ v w, vs = [v, w] ∧ RepV K r h.next H v d ∧ RepV K r h.next H w e := by
  cases q with
  | cons a b =>
    obtain ⟨w, rfl, c⟩ := one_of b
    exact ⟨_, w, rfl, a, c⟩
theorem s_bi {b : Bi} (S : Sim K r h H) (q : RepL K r h.next H vs ds) (e : biD b ds h = some (res, h')) (p : PG K W r h H (RepV K) Q res h') : rBi K b vs H Q := by
  cases b with
  | len =>
    simp only [biD] at e
    split at e
    · obtain ⟨v, rfl, a⟩ := one_of q
      cases a
      split at e
      · rename_i hl
        cases e
        exact .inl ⟨_, _, rfl, ⟨lim_le hl, rfl⟩, s_plain S (.int _) p⟩
      · cases e
    · obtain ⟨v, rfl, a⟩ := one_of q
      cases a with
      | tup hT q1 =>
        cases e
        refine .inl ⟨_, _, rfl, .inr ⟨_, hT, rfl⟩, ?_⟩
        rw [q1.len]
        exact s_plain S (.int _) p
    · rename_i a0
      obtain ⟨v, rfl, a⟩ := one_of q
      cases a with
      | ref la =>
        split at e
        · rename_i xs ha
          cases e
          obtain ⟨vs, h1, q⟩ := (S.obj a0 _ ha).2
          refine .inl ⟨_, _, rfl, .inl ⟨_, .inl (.inl h1), rfl⟩, ?_⟩
          rw [q.len]
          exact s_plain S (.int _) p
        · rename_i xs ha
          cases e
          obtain ⟨vs, h1, q⟩ := (S.obj a0 _ ha).2
          refine .inl ⟨_, _, rfl, .inl ⟨_, h1.l, rfl⟩, ?_⟩
          rw [q.len]
          exact s_plain S (.int _) p
        · rename_i kvs ha
          cases e
          obtain ⟨ws, h1, q⟩ := (S.obj a0 _ ha).2
          refine .inr ⟨_, ws, rfl, h1, ?_⟩
          have el : ws.length = kvs.length := by simpa using congrArg List.length q.1
          rw [el]
          exact s_plain S (.int _) p
        · cases e
    · cases e
  | int =>
    simp only [biD] at e
    split at e
    · obtain ⟨v, rfl, a⟩ := one_of q
      cases a
      cases e
      exact .inl (.inl ⟨_, rfl, s_plain S (.int _) p⟩)
    · obtain ⟨v, rfl, a⟩ := one_of q
      cases a
      cases e
      exact .inl (.inr ⟨_, rfl, s_plain S (.int _) p⟩)
    · obtain ⟨v, rfl, a⟩ := one_of q
      cases a
      split at e
      · rename_i hl
        split at e
        · rename_i n hn
          cases e
          exact .inr ⟨_, n, rfl, hn, hl, s_plain S (.int _) p⟩
        · cases e
      · cases e
    · cases e
  | str =>
    simp only [biD] at e
    split at e
    · obtain ⟨v, rfl, a⟩ := one_of q
      cases a
      split at e
      · rename_i i hl
        cases e
        refine ⟨i, rfl, ?_, s_plain S (.str _) p⟩
        exact Nat.lt_of_lt_of_le (PySem.Flt.log2_lt_of (show 0 < 250 by decide) (natAbs_big hl)) (by decide)
      · cases e
    · cases e
  | list =>
    simp only [biD] at e
    split at e
    · obtain ⟨v, rfl, a⟩ := one_of q
      split at e
      · rename_i xs hx
        cases e
        obtain ⟨pp, us, e1, e2, e3⟩ := seqOf_of S a hx
        subst e1
        exact .inl ⟨pp, us, rfl, e2, s_newlist S e3 p⟩
      · split at e
        · rename_i a0 _
          cases a with
          | ref la =>
            split at e
            · rename_i kvs ha
              cases e
              obtain ⟨ws, h1, q2⟩ := (S.obj a0 _ ha).2
              exact .inr ⟨_, ws, rfl, .inl h1, s_newlist S (repKeys q2) p⟩
            · cases e
        · cases e
    · cases e
  | tuple =>
    simp only [biD] at e
    split at e
    · obtain ⟨v, rfl, a⟩ := one_of q
      split at e
      · rename_i xs hx
        cases e
        obtain ⟨pp, us, e1, e2, e3⟩ := seqOf_of S a hx
        subst e1
        refine ⟨pp, us, rfl, ?_⟩
        rcases e2 with e2 | e2
        · exact .inl ⟨e2, s_newtup S e3 p⟩
        · exact .inr ⟨e2, s_plain S (.tup e2 e3) p⟩
      · cases e
    · cases e
  | dict =>
    simp only [biD] at e
    split at e
    · rename_i a0
      obtain ⟨v, rfl, a⟩ := one_of q
      cases a with
      | ref la =>
        split at e
        · rename_i kvs ha
          cases e
          obtain ⟨ws, h1, q⟩ := (S.obj a0 _ ha).2
          exact ⟨_, ws, rfl, .inl h1, s_newdict S q p⟩
        · cases e
    · cases e
  | min2 =>
    simp only [biD] at e
    split at e
    · obtain ⟨v, w, rfl, a, b⟩ := two_of q
      cases a
      cases b
      cases e
      exact ⟨_, _, rfl, s_plain S (.int _) p⟩
    · cases e
  | minD =>
    simp only [biD] at e
    split at e
    · obtain ⟨v, w, rfl, a, b⟩ := two_of q
      cases b
      split at e
      · rename_i xs hx
        split at e
        · rename_i ns hn
          cases e
          obtain ⟨pp, us, e1, e2, e3⟩ := lstOf_of S a hx
          subst e1
          rw [e3.ints hn] at e2
          exact ⟨pp, ns, _, rfl, e2, s_plain S (.int _) p⟩
        · cases e
      · cases e
    · cases e
  | max2 =>
    simp only [biD] at e
    split at e
    · obtain ⟨v, w, rfl, a, b⟩ := two_of q
      cases a
      cases b
      cases e
      exact ⟨_, _, rfl, s_plain S (.int _) p⟩
    · cases e
  | sum =>
    simp only [biD] at e
    split at e
    · obtain ⟨v, rfl, a⟩ := one_of q
      split at e
      · rename_i xs hx
        split at e
        · rename_i ns hn
          cases e
          obtain ⟨pp, us, e1, e2, e3⟩ := lstOf_of S a hx
          subst e1
          rw [e3.ints hn] at e2
          exact ⟨pp, ns, rfl, e2, s_plain S (.int _) p⟩
        · cases e
      · cases e
    · cases e
  | any =>
    simp only [biD] at e
    split at e
    · obtain ⟨v, rfl, a⟩ := one_of q
      split at e
      · rename_i xs hx
        split at e
        · rename_i ns hn
          cases e
          obtain ⟨pp, us, e1, e2, e3⟩ := lstOf_of S a hx
          subst e1
          rw [e3.bls hn] at e2
          exact ⟨pp, ns, rfl, e2, s_plain S (.bl _) p⟩
        · cases e
      · cases e
    · cases e
  | lset =>
    simp only [biD] at e
    split at e
    · obtain ⟨v, rfl, a⟩ := one_of q
      split at e
      · rename_i xs hx
        split at e
        · rename_i ns hn
          split at e
          · rename_i hc
            cases e
            obtain ⟨pp, us, e1, e2, e3⟩ := lstOf_of S a hx
            subst e1
            rw [e3.ints hn] at e2
            exact ⟨pp, ns, rfl, e2, hc.1, hc.2, s_plain S (.int _) p⟩
          · cases e
        · cases e
      · cases e
    · cases e
  | sorted =>
    simp only [biD] at e
    split at e
    · obtain ⟨v, rfl, a⟩ := one_of q
      split at e
      · rename_i xs hx
        split at e
        · rename_i ns hn
          cases e
          obtain ⟨pp, us, e1, e2, e3⟩ := lstOf_of S a hx
          subst e1
          rw [e3.ints hn] at e2
          refine .inl ⟨pp, ns, rfl, e2, fun ns' l hp hs hl => ?_⟩
          have en : ns' = srt ns := PySem.W.ksm_same (hp.trans (srt_perm ns).symm) hs (srt_sorted ns)
          subst en
          exact s_newlist S (repInts _) p l hl
        · cases e
      · split at e
        · rename_i a0 n0
          cases a with
          | ref la =>
            split at e
            · rename_i kvs ha
              split at e
              · rename_i ns hn
                split at e
                · rename_i h64
                  cases e
                  obtain ⟨ws, h1, q1⟩ := (S.obj a0 _ ha).2
                  refine .inr ⟨_, ws, ns, rfl, .inl h1, ?_, h64, fun ns' l hp hs hl => ?_⟩
                  · rw [q1.1]
                    clear q1 h1 ha p h64 q
                    induction kvs generalizing ns with
                    | nil => cases hn; rfl
                    | cons kv kvs ih =>
                      obtain ⟨k, d⟩ := kv
                      cases k with
                      | inl i =>
                        simp only [List.map_cons, keyD, ints?] at hn
                        obtain ⟨ms, e1, rfl⟩ := Option.map_eq_some_iff.mp hn
                        rw [List.map_cons, List.map_cons, ih _ e1]
                      | inr s => cases hn
                  · have en : ns' = srt ns := PySem.W.ksm_same (hp.trans (srt_perm ns).symm) hs (srt_sorted ns)
                    subst en
                    exact s_newlist S (repInts _) p l hl
                · cases e
              · cases e
            · cases e
        · cases e
    · cases e
  | divmod =>
    simp only [biD] at e
    split at e
    · obtain ⟨v, w, rfl, a, b⟩ := two_of q
      cases a
      cases b
      split at e
      · rename_i i j hl
        cases e
        refine ⟨i, j, rfl, divp_ok hl.1 ?_, s_newtup S (.cons (.int _) (.cons (.int _) .nil)) p⟩
        have h1 : i.natAbs < 2 ^ 250 := natAbs_big hl.2
        have h2 := PySem.Flt.log2_lt_of (show 0 < 250 by decide) h1
        have h3 : Builtin.Int.intBits i ≤ i.natAbs.log2 + 1 := by
          unfold Builtin.Int.intBits
          split <;> omega
        omega
      · cases e
    · cases e
  | abs =>
    simp only [biD] at e
    split at e
    · obtain ⟨v, rfl, a⟩ := one_of q
      cases a
      cases e
      exact ⟨_, rfl, s_plain S (.int _) p⟩
    · cases e
end
end Z

set_option maxRecDepth 100000
set_option maxHeartbeats 1000000
/-! ZH: methods of built-in types. -/
namespace Z
open PySem L2

theorem pe_imp {X : Cx} {e : Expr} {t t' : TE} (h : PE X e t) (i : ∀ σ H Q, t' σ H Q → t σ H Q) : PE X e t' := ⟨fun pins s σ H Q I q => h.run pins s σ H Q I (i σ H Q q)⟩

def tyB (K : PySem.W.Frag) (b : Bm) (x : V) (H : Hp) : Prop := match b with
  | .append => tyV K "list" x H
  | .pop => tyV K "list" x H
  | .insert => tyV K "list" x H
  | .clear => tyV K "list" x H
  | .index => tyV K "list" x H
  | .get => ∃ a, x = .ref a ∧ IsD H a
  | .get2 => ∃ a, x = .ref a ∧ IsD H a
  | .dpop => ∃ a, x = .ref a ∧ IsD H a
  | _ => ∃ a, x = .str a
def rM (K : PySem.W.Frag) : Bm → V → List V → Hp → VK → Prop
  | .append => rAppend
  | .pop => rPop
  | .insert => fun x vs H Q => ∃ (l : Addr) (xs : List V) (i : Int) (y : V), x = .ref l ∧ vs = [.int i, y] ∧ H l = some (.lst xs) ∧ xs.length < sizeLine ∧ 0 ≤ i ∧ i < 2 ^ 63 ∧
    Q .non (upd H l (.lst (xs.take i.toNat ++ [y] ++ xs.drop i.toNat)))
  | .clear => rClear
  | .index => rIndex K
  | .get => fun x xs H Q => ∃ a k o, x = .ref a ∧ xs = [k] ∧ DGet H a k o ∧ Q (o.getD .non) H
  | .get2 => fun x xs H Q => ∃ a k z o, x = .ref a ∧ xs = [k, z] ∧ DGet H a k o ∧ Q (o.getD z) H
  | .dpop => fun x xs H Q => ∃ a kvs k v, x = .ref a ∧ xs = [kV k] ∧ H a = some (.dK kvs) ∧ valV kvs k = some v ∧ Q v (upd H a (.dK (dropK kvs k)))
  | .join => fun x xs H Q => ∃ a p, ∃ ys : List Str, x = .str a ∧ xs = [.ref p] ∧ (SqL K H p (ys.map V.str) ∨ SqT K H p (ys.map V.str)) ∧
      (ys.map (·.length)).sum + ys.length * a.length ≤ 16777216 ∧ Q (.str (Txt.join a ys)) H
  | .split => fun x xs H Q => ∃ a b, x = .str a ∧ xs = [.str b] ∧ (b.length == 0) = false ∧ a.length + 2 ≤ sizeLine ∧ rNewStrs (Txt.split a b) H Q
  | .partition => fun x xs H Q => ∃ a b, x = .str a ∧ xs = [.str b] ∧ (b.length == 0) = false ∧ a.length ≤ sizeLine ∧
      ∀ p, H p = none → Q (.ref p) (upd H p (.tup [.str (Txt.partition a b).1, .str (Txt.partition a b).2.1, .str (Txt.partition a b).2.2]))
  | .find => fun x xs H Q => ∃ a b, x = .str a ∧ xs = [.str b] ∧ Q (.int (Txt.find a b)) H
  | .isdigit => fun x xs H Q => ∃ a, x = .str a ∧ xs = [] ∧ True ∧ Q (.bl (Txt.isdigit a)) H
def tBmZ (K : PySem.W.Frag) (b : Bm) (to : TE) (t : TA) : TE := fun σ H Q => to σ H fun x H1 => tyB K b x H1 ∧ t σ H1 fun xs H2 => rM K b x xs H2 Q
section
variable {X : Cx} {o e f : Expr} {es : List Expr} {to te tf : TE} {t : TA} {apos cpos : Pos}
theorem zm_append (ho : PE X o to) (ha : PA X (e :: es) t)
    (hbase : attributeBase o "append" X.env (eval o X.env) = eval o X.env := by rfl)
    (hfew : ((backTo cpos (starEach (e :: es) X.env)).all (fun x => !x.1) && (backToKw cpos (keywordEach [] X.env)).all (fun x => x.1.isSome) && decide ((e :: es).length + ([] : List Keyword).length + (if ([] : List Keyword).isEmpty then 0 else 1) < 30)) = true := by rfl)
    (hline : (apos.endLine == cpos.line) = true := by rfl) (hs : starEach (e :: es) X.env = (false, eval e X.env) :: starEach es X.env := by rfl) (hplain : (backTo cpos (starEach es X.env)).any (·.1) = false := by rfl) :
    PE X (.Call (.Attribute o "append" apos) (e :: es) [] cpos) (tBmZ X.K .append to t) :=
  pe_bm PySem.F.plainAttrs_list PySem.F.slot_list_append PySem.F.type_list_append mt_append ho ha hbase hfew hline hs hplain
theorem zm_insert (ho : PE X o to) (ha : PA X (e :: es) t)
    (hbase : attributeBase o "insert" X.env (eval o X.env) = eval o X.env := by rfl)
    (hfew : ((backTo cpos (starEach (e :: es) X.env)).all (fun x => !x.1) && (backToKw cpos (keywordEach [] X.env)).all (fun x => x.1.isSome) && decide ((e :: es).length + ([] : List Keyword).length + (if ([] : List Keyword).isEmpty then 0 else 1) < 30)) = true := by rfl)
    (hline : (apos.endLine == cpos.line) = true := by rfl) (hs : starEach (e :: es) X.env = (false, eval e X.env) :: starEach es X.env := by rfl) (hplain : (backTo cpos (starEach es X.env)).any (·.1) = false := by rfl) :
    PE X (.Call (.Attribute o "insert" apos) (e :: es) [] cpos) (tBmZ X.K .insert to t) :=
  pe_bm PySem.F.plainAttrs_list PySem.F.slot_list_insert PySem.F.type_list_insert mt_insert ho ha hbase hfew hline hs hplain
theorem zm_index (ho : PE X o to) (ha : PA X (e :: es) t)
    (hbase : attributeBase o "index" X.env (eval o X.env) = eval o X.env := by rfl)
    (hfew : ((backTo cpos (starEach (e :: es) X.env)).all (fun x => !x.1) && (backToKw cpos (keywordEach [] X.env)).all (fun x => x.1.isSome) && decide ((e :: es).length + ([] : List Keyword).length + (if ([] : List Keyword).isEmpty then 0 else 1) < 30)) = true := by rfl)
    (hline : (apos.endLine == cpos.line) = true := by rfl) (hs : starEach (e :: es) X.env = (false, eval e X.env) :: starEach es X.env := by rfl) (hplain : (backTo cpos (starEach es X.env)).any (·.1) = false := by rfl) :
    PE X (.Call (.Attribute o "index" apos) (e :: es) [] cpos) (tBmZ X.K .index to t) :=
  pe_bm PySem.F.plainAttrs_list PySem.F.slot_list_index PySem.F.type_list_index mt_index ho ha hbase hfew hline hs hplain
theorem zm_pop (ho : PE X o to) (hbase : attributeBase o "pop" X.env (eval o X.env) = eval o X.env := by rfl) (hline : (apos.endLine == cpos.line) = true := by rfl) :
    PE X (.Call (.Attribute o "pop" apos) [] [] cpos) (tBmZ X.K .pop to tNil) :=
  pe_bm0 PySem.F.plainAttrs_list PySem.F.slot_list_pop PySem.F.type_list_pop mt_pop ho hbase hline
theorem zm_clear (ho : PE X o to) (hbase : attributeBase o "clear" X.env (eval o X.env) = eval o X.env := by rfl) (hline : (apos.endLine == cpos.line) = true := by rfl) :
    PE X (.Call (.Attribute o "clear" apos) [] [] cpos) (tBmZ X.K .clear to tNil) :=
  pe_bm0 PySem.F.plainAttrs_list PySem.F.slot_list_clear PySem.F.type_list_clear mt_clear ho hbase hline
theorem zm_join (ho : PE X o to) (he : PE X e te) (hs : starEach [e] X.env = [(false, eval e X.env)] := by rfl) (hbase : attributeBase o "join" X.env (eval o X.env) = eval o X.env := by rfl) (hline : (apos.endLine == cpos.line) = true := by rfl) :
    PE X (.Call (.Attribute o "join" apos) [e] [] cpos) (tBmZ X.K .join to (tCons te tNil)) := pe_join ho he hs hbase hline
theorem zm_split (ho : PE X o to) (he : PE X e te) (hs : starEach [e] X.env = [(false, eval e X.env)] := by rfl) (hbase : attributeBase o "split" X.env (eval o X.env) = eval o X.env := by rfl) (hline : (apos.endLine == cpos.line) = true := by rfl) :
    PE X (.Call (.Attribute o "split" apos) [e] [] cpos) (tBmZ X.K .split to (tCons te tNil)) := pe_split ho he hs hbase hline
theorem zm_partition (ho : PE X o to) (he : PE X e te) (hs : starEach [e] X.env = [(false, eval e X.env)] := by rfl) (hbase : attributeBase o "partition" X.env (eval o X.env) = eval o X.env := by rfl) (hline : (apos.endLine == cpos.line) = true := by rfl) :
    PE X (.Call (.Attribute o "partition" apos) [e] [] cpos) (tBmZ X.K .partition to (tCons te tNil)) := pe_partition ho he hs hbase hline
theorem zm_find (ho : PE X o to) (he : PE X e te) (hs : starEach [e] X.env = [(false, eval e X.env)] := by rfl) (hbase : attributeBase o "find" X.env (eval o X.env) = eval o X.env := by rfl) (hline : (apos.endLine == cpos.line) = true := by rfl) :
    PE X (.Call (.Attribute o "find" apos) [e] [] cpos) (tBmZ X.K .find to (tCons te tNil)) := pe_m1 F.slot_str_find F.type_str_find mt_find ho he hs hbase hline
theorem zm_isdigit (ho : PE X o to) (hbase : attributeBase o "isdigit" X.env (eval o X.env) = eval o X.env := by rfl) (hline : (apos.endLine == cpos.line) = true := by rfl) :
    PE X (.Call (.Attribute o "isdigit" apos) [] [] cpos) (tBmZ X.K .isdigit to tNil) := pe_m0 F.slot_str_isdigit F.type_str_isdigit mt_isdigit ho hbase hline
/-- the reading made monotone -/
def up (t : TE) : TE := fun σ H Q => ∃ R : VK, t σ H R ∧ ∀ x H', R x H' → Q x H'
theorem pe_up {X : Cx} {e : Expr} {t : TE} (h : PE X e t) : PE X e (up t) := by
  refine ⟨fun pins s σ H Q I q => ?_⟩
  obtain ⟨R, q, m⟩ := q
  exact thn (h.run pins s σ H R I q) fun u s1 ⟨x, H1, I1, r1, q1⟩ => ⟨x, H1, I1, r1, m x H1 q1⟩
theorem zm_get (hu : X.A.units + 64 < cLine) (ho : PE X o to) (he : PE X e te) (m : M1 X o "get" apos e cpos := by exact ⟨rfl, rfl, rfl, rfl⟩) : PE X (.Call (.Attribute o "get" apos) [e] [] cpos) (tBmZ X.K .get to (tCons te tNil)) := by
  refine pe_imp (pe_dget1 (by omega) (pe_up ho) (pe_up he) m) fun σ H Q h => ?_
  refine ⟨_, h, fun x H1 q => ?_⟩
  obtain ⟨⟨a, ex, d⟩, q⟩ := q
  refine ⟨a, ex, d, _, q, fun y H2 w => ?_⟩
  obtain ⟨a', k, o, e1, e2, g, w⟩ := w
  subst ex
  cases e1
  cases e2
  exact ⟨o, g, w⟩
theorem zm_get2 (hu : X.A.units + 64 < cLine) (ho : PE X o to) (he : PE X e te) (hf : PE X f tf) (m : M2 X o "get" apos e f cpos := by exact ⟨rfl, rfl, rfl, rfl⟩) : PE X (.Call (.Attribute o "get" apos) [e, f] [] cpos) (tBmZ X.K .get2 to (tCons te (tCons tf tNil))) := by
  refine pe_imp (pe_dget2 (by omega) (pe_up ho) (pe_up he) (pe_up hf) m) fun σ H Q h => ?_
  refine ⟨_, h, fun x H1 q => ?_⟩
  obtain ⟨⟨a, ex, d⟩, q⟩ := q
  refine ⟨a, ex, d, _, q, fun y H2 w => ?_⟩
  refine ⟨_, w, fun z H3 w => ?_⟩
  obtain ⟨a', k, z', o, e1, e2, g, w⟩ := w
  subst ex
  cases e1
  cases e2
  exact ⟨o, g, w⟩
theorem zm_dpop (ho : PE X o to) (he : PE X e te) (m : M1 X o "pop" apos e cpos := by exact ⟨rfl, rfl, rfl, rfl⟩) : PE X (.Call (.Attribute o "pop" apos) [e] [] cpos) (tBmZ X.K .dpop to (tCons te tNil)) := by
  refine pe_imp (pe_dpop1 (pe_up ho) (pe_up he) m) fun σ H Q h => ?_
  refine ⟨_, h, fun x H1 q => ?_⟩
  obtain ⟨⟨a, ex, d⟩, q⟩ := q
  refine ⟨a, ex, d, _, q, fun y H2 w => ?_⟩
  obtain ⟨a', kvs, k, v, e1, e2, g, hv, w⟩ := w
  subst ex
  cases e1
  cases e2
  exact ⟨kvs, k, v, g, rfl, hv, w⟩
end

section
variable {κ : Type} [DecidableEq κ] {K : PySem.W.Frag} {r : Rho} {n : Nat} {H : Hp}
theorem repK_drop (k : κ) : ∀ {kvs : List (κ × D)} {ws : List (κ × V)}, RepK K r n H ws kvs → RepK K r n H (dropK ws k) (kdrop kvs k)
  | [], [], _ => ⟨rfl, .nil⟩
  | [], w :: ws, q => nomatch q.1
  | p :: kvs, [], q => nomatch q.1
  | p :: kvs, w :: ws, q => by
    obtain ⟨q1, q2⟩ := q
    simp only [List.map_cons, List.cons.injEq] at q1
    simp only [List.map_cons] at q2
    cases q2 with
    | cons a b =>
      have ih := repK_drop k (kvs := kvs) (ws := ws) ⟨q1.2, b⟩
      unfold dropK kdrop at ih ⊢
      by_cases hk : p.1 = k
      · have hw : w.1 = k := q1.1.trans hk
        rw [List.filter_cons_of_neg (by simp [hk, hw]), List.filter_cons_of_neg (by simp [hk, hw])]
        exact ih
      · have hw : ¬ w.1 = k := fun z => hk (q1.1.symm.trans z)
        rw [List.filter_cons_of_pos (by simp [hk, hw]), List.filter_cons_of_pos (by simp [hk, hw])]
        refine ⟨?_, ?_⟩
        · simp only [List.map_cons, q1.1, ih.1]
        · simp only [List.map_cons]
          exact .cons a ih.2
theorem any_key (k : κ) : ∀ {kvs : List (κ × D)} {ws : List (κ × V)}, ws.map (·.1) = kvs.map (·.1) → (ws.any fun kv => decide (kv.1 = k)) = kvs.any fun kv => decide (kv.1 = k)
  | [], [], _ => rfl
  | [], w :: ws, q => nomatch q
  | p :: kvs, [], q => nomatch q
  | p :: kvs, w :: ws, q => by
    simp only [List.map_cons, List.cons.injEq] at q
    rw [List.any_cons, List.any_cons, any_key k q.2, q.1]
theorem repK_map {v : V} {d : D} (k : κ) (a : RepV K r n H v d) : ∀ {kvs : List (κ × D)} {ws : List (κ × V)}, RepK K r n H ws kvs →
    RepK K r n H (ws.map (fun kv => if kv.1 = k then (kv.1, v) else kv)) (kvs.map (fun kv => if kv.1 = k then (kv.1, d) else kv))
  | [], [], _ => ⟨rfl, .nil⟩
  | [], w :: ws, q => nomatch q.1
  | p :: kvs, [], q => nomatch q.1
  | p :: kvs, w :: ws, q => by
    obtain ⟨q1, q2⟩ := q
    simp only [List.map_cons, List.cons.injEq] at q1
    simp only [List.map_cons] at q2
    cases q2 with
    | cons b c =>
      have ih := repK_map k a (kvs := kvs) (ws := ws) ⟨q1.2, c⟩
      by_cases hk : p.1 = k
      · have hw : w.1 = k := q1.1.trans hk
        refine ⟨?_, ?_⟩
        · simp only [List.map_cons, if_pos hk, if_pos hw, q1.1]
          exact congrArg _ ih.1
        · simp only [List.map_cons, if_pos hk, if_pos hw]
          exact .cons a ih.2
      · have hw : ¬ w.1 = k := fun z => hk (q1.1.symm.trans z)
        refine ⟨?_, ?_⟩
        · simp only [List.map_cons, if_neg hk, if_neg hw, q1.1]
          exact congrArg _ ih.1
        · simp only [List.map_cons, if_neg hk, if_neg hw]
          exact .cons b ih.2
theorem repK_put {v : V} {d : D} (k : κ) (a : RepV K r n H v d) {kvs : List (κ × D)} {ws : List (κ × V)} (q : RepK K r n H ws kvs) : RepK K r n H (putK ws k v) (kput kvs k d) := by
  unfold putK kput
  rw [any_key k q.1]
  split
  · exact repK_map k a q
  · refine ⟨?_, ?_⟩
    · rw [List.map_append, List.map_append, q.1]
      rfl
    · rw [List.map_append, List.map_append]
      exact q.2.append1 a
end

section
variable {K : PySem.W.Frag} {W : XK} {r : Rho} {h h' : Hm} {H : Hp} {Q : VK} {res : Except String D} {v w : V} {x y : D} {vs : List V} {ds : List D}
theorem s_rcv {b : Bm} (S : Sim K r h H) (rv : RepV K r h.next H v x) (e : rcv b x h = true) : tyB K b v H := by
  have lst : (lstOf x h).isSome = true → tyV K "list" v H := fun e => by
    obtain ⟨xs, e1⟩ := Option.isSome_iff_exists.mp e
    obtain ⟨p, us, ev, e2, _⟩ := lstOf_of S rv e1
    subst ev
    exact .inl ⟨rfl, us, e2⟩
  have dic : rcv.isDic x h = true → ∃ a, v = .ref a ∧ IsD H a := fun e => by
    unfold rcv.isDic at e
    cases rv with
    | @ref a la =>
      simp only at e
      split at e
      · rename_i kvs ha
        obtain ⟨ws, h1, _⟩ := (S.obj a _ ha).2
        exact ⟨_, rfl, .inl ⟨ws, .inl h1⟩⟩
      · rename_i kvs ha
        obtain ⟨ob, ws, h1, _⟩ := (S.obj a _ ha).2
        exact ⟨_, rfl, .inl ⟨ws, .inr ⟨ob, h1⟩⟩⟩
      · cases e
    | _ => cases e
  cases b with
  | append => exact lst e
  | pop => exact lst e
  | insert => exact lst e
  | clear => exact lst e
  | index => exact lst e
  | get => exact dic e
  | get2 => exact dic e
  | dpop => exact dic e
  | _ => cases rv <;> first | exact ⟨_, rfl⟩ | cases e
/-- an object that stands is written -/
theorem s_put {a : Nat} {o0 o : O} {u : HO} {d : D} {z : V} (S : Sim K r h H) (ha : h.get a = some o0) (m0 : mutO o0 = true) (q : RepV K r h.next H z d) (p : PG K W r h H (RepV K) Q (.ok d) (h.put a o)) (m : mutO o = true)
    (w : ∀ H', Ext K r h.next H r h.next H' → H' (r a) = some u → RepO K r h.next H' (r a) o) : Q z (upd H (r a) u) := by
  have x := (S.free ha m0).ext (K := K) (r := r) (n := h.next) (u := u)
  have S1 : Sim K r (h.put a o) (upd H (r a) u) := S.put ha m0 (own_of m) (w _ x upd_same)
  exact p z r _ S1 x (q.ext x)
theorem s_bm {b : Bm} (S : Sim K r h H) (rv : RepV K r h.next H v x) (q : RepL K r h.next H vs ds) (e : bmD b x ds h = some (res, h')) (p : PG K W r h H (RepV K) Q res h') : rM K b v vs H Q := by
  cases b with
  | append =>
    simp only [bmD] at e
    split at e
    · rename_i a d
      obtain ⟨w, rfl, q1⟩ := one_of q
      split at e
      · rename_i xs ha
        split at e
        · rename_i hl
          cases e
          obtain ⟨us, h1, q2⟩ := (S.obj a _ ha).2
          cases rv
          refine ⟨_, us, w, rfl, rfl, h1, by rw [q2.len]; exact lim_lt hl, ?_⟩
          exact s_put S ha rfl .non p rfl fun H' x h2 => ⟨_, h2, (q2.ext x).append1 (q1.ext x)⟩
        · cases e
      · cases e
    · cases e
  | pop =>
    simp only [bmD] at e
    split at e
    · rename_i a
      split at e
      · rename_i xs ha
        split at e
        · rename_i y hy
          cases e
          obtain ⟨us, h1, q2⟩ := (S.obj a _ ha).2
          cases q
          cases rv
          have hy2 : xs[xs.length - 1]? = some y := by rw [← List.getLast?_eq_getElem?]; exact hy
          obtain ⟨u, e1, q3⟩ := q2.get hy2
          rw [← q2.len] at e1
          refine ⟨_, us, u, rfl, rfl, h1, e1, ?_⟩
          refine s_put S ha rfl q3 p rfl fun H' x h2 => ⟨_, h2, ?_⟩
          rw [List.dropLast_eq_take, List.dropLast_eq_take, q2.len]
          exact (q2.ext x).take _
        · cases e
      · cases e
    · cases e
  | get =>
    simp only [bmD] at e
    split at e
    · rename_i a k
      obtain ⟨w, rfl, q1⟩ := one_of q
      cases rv
      split at e
      · rename_i d hd
        cases e
        obtain ⟨u, g, g1, g2⟩ := dget_of S q1 hd
        obtain ⟨z, ez, qz⟩ := g1 _ rfl
        subst ez
        exact ⟨_, w, _, rfl, rfl, g, s_plain S qz p⟩
      · rename_i hd
        cases e
        obtain ⟨u, g, g1, g2⟩ := dget_of S q1 hd
        rw [g2 rfl] at g
        exact ⟨_, w, _, rfl, rfl, g, s_plain S .non p⟩
      · cases e
    · cases e
  | get2 =>
    simp only [bmD] at e
    split at e
    · rename_i a k y
      obtain ⟨w, z0, rfl, q1, q2⟩ := two_of q
      cases rv
      split at e
      · rename_i d hd
        cases e
        obtain ⟨u, g, g1, g2⟩ := dget_of S q1 hd
        obtain ⟨z, ez, qz⟩ := g1 _ rfl
        subst ez
        exact ⟨_, w, z0, _, rfl, rfl, g, s_plain S qz p⟩
      · rename_i hd
        cases e
        obtain ⟨u, g, g1, g2⟩ := dget_of S q1 hd
        rw [g2 rfl] at g
        exact ⟨_, w, z0, _, rfl, rfl, g, s_plain S q2 p⟩
      · cases e
    · cases e
  | dpop =>
    simp only [bmD] at e
    split at e
    · rename_i a k
      obtain ⟨w, rfl, q1⟩ := one_of q
      split at e
      · rename_i kvs ha
        split at e
        · rename_i kq hk
          split at e
          · rename_i d hd
            cases e
            obtain ⟨ws, h1, q2⟩ := (S.obj a _ ha).2
            cases rv
            obtain ⟨z, e1, q3⟩ := (repK_get kq q2).1 _ hd
            rw [key_of q1 hk]
            refine ⟨_, ws, kq, z, rfl, rfl, h1, e1, ?_⟩
            exact s_put S ha rfl q3 p rfl fun H' x h2 => ⟨_, h2, RepK.ext x (repK_drop kq q2)⟩
          · cases e
        · cases e
      · cases e
    · cases e
  | join =>
    simp only [bmD] at e
    split at e
    · rename_i z y
      obtain ⟨w, rfl, q1⟩ := one_of q
      cases rv
      split at e
      · rename_i xs hx
        split at e
        · rename_i ys hy
          split at e
          · rename_i hl
            cases e
            obtain ⟨pp, us, e1, e2, e3⟩ := seqOf_of S q1 hx
            subst e1
            rw [e3.strs hy] at e2
            exact ⟨z, pp, ys, rfl, rfl, e2, hl, s_plain S (.str _) p⟩
          · cases e
        · cases e
      · cases e
    · cases e
  | split =>
    simp only [bmD] at e
    split at e
    · rename_i z y
      obtain ⟨w, rfl, q1⟩ := one_of q
      cases rv
      cases q1
      split at e
      · rename_i hl
        cases e
        refine ⟨z, y, rfl, rfl, hl.1, ?_, s_newlist S (repStrs _) p⟩
        have := hl.2
        unfold lim at this
        rw [sizeLine_eq]
        omega
      · cases e
    · cases e
  | partition =>
    simp only [bmD] at e
    split at e
    · rename_i z y
      obtain ⟨w, rfl, q1⟩ := one_of q
      cases rv
      cases q1
      split at e
      · rename_i hl
        cases e
        exact ⟨z, y, rfl, rfl, hl.1, lim_le hl.2, s_newtup S (.cons (.str _) (.cons (.str _) (.cons (.str _) .nil))) p⟩
      · cases e
    · cases e
  | index =>
    simp only [bmD] at e
    split at e
    · rename_i y
      obtain ⟨w, rfl, q1⟩ := one_of q
      split at e
      · rename_i xs hx
        split at e
        · rename_i hf
          split at e
          · rename_i j hj
            cases e
            obtain ⟨pp, us, e1, e2, e3⟩ := lstOf_of S rv hx
            subst e1
            have key : ∀ (xs : List D) (us : List V) (j : Nat), RepL K r h.next H us xs → xs.all flatD = true → whereL y xs = some j →
                ∃ z, us[j]? = some z ∧ eqV z w = true ∧ ∀ (m : Nat) (z' : V), m < j → us[m]? = some z' → eqV z' w = false := by
              intro xs
              induction xs with
              | nil => intro us j _ _ e; cases e
              | cons x xs ih =>
                intro us j q f e
                cases q with
                | cons a b =>
                  rw [List.all_cons, Bool.and_eq_true_iff] at f
                  unfold whereL at e
                  by_cases hx : eqF x y = true
                  · rw [if_pos hx] at e
                    cases e
                    exact ⟨_, rfl, by rw [eqF_of a q1 f.1 hf.1]; exact hx, fun m _ hm => absurd hm (Nat.not_lt_zero _)⟩
                  · rw [if_neg hx] at e
                    obtain ⟨i, e1, e2⟩ := Option.map_eq_some_iff.mp e
                    subst e2
                    obtain ⟨z, k1, k2, k3⟩ := ih _ i b f.2 e1
                    refine ⟨z, k1, k2, fun m z' hm hz => ?_⟩
                    cases m with
                    | zero =>
                      cases hz
                      rw [eqF_of a q1 f.1 hf.1]
                      exact Bool.eq_false_iff.mpr hx
                    | succ m => exact k3 m z' (by omega) hz
            obtain ⟨z, k1, k2, k3⟩ := key xs us j e3 hf.2 hj
            exact ⟨pp, us, w, j, z, rfl, rfl, e2, flat_of q1 hf.1, flatL_of e3 hf.2, k1, k2, k3, s_plain S (.int _) p⟩
          · cases e
        · cases e
      · cases e
    · cases e
  | insert =>
    simp only [bmD] at e
    split at e
    · rename_i a i d
      obtain ⟨w0, w, rfl, q0, q1⟩ := two_of q
      split at e
      · rename_i xs ha
        split at e
        · rename_i hl
          cases e
          obtain ⟨us, h1, q2⟩ := (S.obj a _ ha).2
          cases rv
          cases q0
          refine ⟨_, us, i, w, rfl, rfl, h1, by rw [q2.len]; exact lim_lt hl.1, hl.2.1, by omega, ?_⟩
          exact s_put S ha rfl .non p rfl fun H' x h2 => ⟨_, h2, (((q2.ext x).take _).append1 (q1.ext x)).app ((q2.ext x).drop _)⟩
        · cases e
      · cases e
    · cases e
  | clear =>
    simp only [bmD] at e
    split at e
    · rename_i a
      split at e
      · rename_i xs ha
        cases e
        obtain ⟨us, h1, q2⟩ := (S.obj a _ ha).2
        cases rv
        cases q
        exact ⟨_, us, rfl, rfl, h1, s_put S ha rfl .non p rfl fun H' x h2 => ⟨_, h2, .nil⟩⟩
      · cases e
    · cases e
  | find =>
    simp only [bmD] at e
    split at e
    · obtain ⟨w, rfl, q1⟩ := one_of q
      cases rv
      cases q1
      cases e
      exact ⟨_, _, rfl, rfl, s_plain S (.int _) p⟩
    · cases e
  | isdigit =>
    simp only [bmD] at e
    split at e
    · cases q
      cases rv
      cases e
      exact ⟨_, rfl, rfl, trivial, s_plain S (.bl _) p⟩
    · cases e
end
end Z

set_option maxRecDepth 100000
set_option maxHeartbeats 1000000
/-! ZI: what is walked, targets, attributes by names, types. -/
namespace Z
open PySem L2

/-! ### names -/
theorem ofString_inj {a b : String} (h : Str.ofString a = Str.ofString b) : a = b := by
  rw [Str.ofString_eq_toList, Str.ofString_eq_toList] at h
  have h1 : a.toList.map Char.toNat = b.toList.map Char.toNat := by
    have := congrArg (fun s : Str => s.cps.toList) h
    simpa using this
  have h2 : a.toList = b.toList := (List.map_inj_right (f := Char.toNat) fun x y e => Char.toNat_inj.mp e).mp h1
  rw [← String.ofList_toList (s := a), h2, String.ofList_toList]
theorem strEq (a b : String) : (Str.ofString a = Str.ofString b) = (a = b) := propext ⟨ofString_inj, fun e => e ▸ rfl⟩

section
variable {K : PySem.W.Frag} {r : Rho} {n : Nat} {H : Hp}
theorem repF_get {f : String} {d : D} : ∀ {fs : List (String × D)} {ws : List (Str × V)}, RepF K r n H ws fs → fs.lookup f = some d → ∃ v, ws.lookup (Str.ofString f) = some v ∧ RepV K r n H v d
  | [], [], _, e => by cases e
  | [], w :: ws, q, _ => nomatch q.1
  | p :: fs, [], q, _ => nomatch q.1
  | (g, d0) :: fs, (gw, v0) :: ws, q, e => by
    obtain ⟨q1, q2⟩ := q
    simp only [List.map_cons, List.cons.injEq] at q1
    simp only [List.map_cons] at q2
    cases q2 with
    | cons a b =>
      rw [q1.1]
      by_cases hg : f = g
      · subst hg
        simp only [List.lookup_cons, beq_self_eq_true] at e ⊢
        cases e
        exact ⟨_, rfl, a⟩
      · have h1 : (f == g) = false := beq_eq_false_iff_ne.mpr hg
        have h2 : (Str.ofString f == Str.ofString g) = false := beq_eq_false_iff_ne.mpr fun z => hg (ofString_inj z)
        simp only [List.lookup_cons, h1, h2] at e ⊢
        exact repF_get ⟨q1.2, b⟩ e
theorem repF_none {f : String} : ∀ {fs : List (String × D)} {ws : List (Str × V)}, RepF K r n H ws fs → fs.lookup f = none → ws.lookup (Str.ofString f) = none
  | [], [], _, e => rfl
  | [], w :: ws, q, _ => nomatch q.1
  | p :: fs, [], q, _ => nomatch q.1
  | (g, d0) :: fs, (gw, v0) :: ws, q, e => by
    obtain ⟨q1, q2⟩ := q
    simp only [List.map_cons, List.cons.injEq] at q1
    simp only [List.map_cons] at q2
    cases q2 with
    | cons a b =>
      rw [q1.1]
      by_cases hg : f = g
      · subst hg
        simp only [List.lookup_cons, beq_self_eq_true] at e
        cases e
      · have h1 : (f == g) = false := beq_eq_false_iff_ne.mpr hg
        have h2 : (Str.ofString f == Str.ofString g) = false := beq_eq_false_iff_ne.mpr fun z => hg (ofString_inj z)
        simp only [List.lookup_cons, h1, h2] at e ⊢
        exact repF_none ⟨q1.2, b⟩ e
theorem repF_put {f : String} {d : D} {v : V} (a : RepV K r n H v d) : ∀ {fs : List (String × D)} {ws : List (Str × V)}, RepF K r n H ws fs → RepF K r n H (putF (Str.ofString f) v ws) (setF fs f d)
  | [], [], _ => ⟨rfl, .cons a .nil⟩
  | [], w :: ws, q => nomatch q.1
  | p :: fs, [], q => nomatch q.1
  | (g, d0) :: fs, (gw, v0) :: ws, q => by
    obtain ⟨q1, q2⟩ := q
    simp only [List.map_cons, List.cons.injEq] at q1
    simp only [List.map_cons] at q2
    cases q2 with
    | cons b c =>
      obtain ⟨rfl, q1⟩ := q1
      unfold putF setF
      by_cases hg : g = f
      · subst hg
        rw [if_pos rfl, if_pos rfl]
        exact ⟨by simp only [List.map_cons, q1], .cons a c⟩
      · rw [if_neg hg, if_neg fun z => hg (ofString_inj z)]
        have ih := repF_put (f := f) a (fs := fs) (ws := ws) ⟨q1, c⟩
        exact ⟨by simp only [List.map_cons, ih.1], .cons b ih.2⟩
theorem repF_len {fs : List (String × D)} {ws : List (Str × V)} (q : RepF K r n H ws fs) : ws.length = fs.length := by simpa using congrArg List.length q.1
end

/-! ### targets -/
def gsR : List Nat → TGs
  | [] => gNil
  | i :: is => gCons (gName i) (gsR is)
def rdG (K : PySem.W.Frag) : Tg → TG
  | .name i => gName i
  | .tup is => gTup K is.length (gsR is)
def Tg.is (g : Tg) : List Nat := match g with
  | .name i => [i]
  | .tup is => is
/-- the names of is are all that differs -/
def Apart (is : List Nat) (σ σ' : L2.St) : Prop := ∀ vs, (∀ i ∈ is, i ∈ vs) → wipe σ' vs = wipe σ vs
theorem wipe_comm_set (σ : L2.St) (x : Option V) (j : Nat) : ∀ vs : List Nat, j ∉ vs → wipe (σ.set j x) vs = (wipe σ vs).set j x
  | [], _ => rfl
  | v :: vs, h => by
    show (wipe (σ.set j x) vs).set v none = ((wipe σ vs).set v none).set j x
    rw [wipe_comm_set σ x j vs fun z => h (List.mem_cons_of_mem _ z), List.set_comm _ _ fun e => h (by rw [e]; exact List.mem_cons_self)]
theorem wipe_set {σ : L2.St} {j : Nat} {x : Option V} : ∀ {vs : List Nat}, j ∈ vs → wipe (σ.set j x) vs = wipe σ vs
  | v :: vs, h => by
    show (wipe (σ.set j x) vs).set v none = (wipe σ vs).set v none
    by_cases hj : j ∈ vs
    · rw [wipe_set hj]
    · have : j = v := by
        rcases List.mem_cons.mp h with e | e
        · exact e
        · exact absurd e hj
      subst this
      rw [wipe_comm_set σ x j vs hj, List.set_set]
theorem wipe_none {σ : L2.St} {j : Nat} : ∀ {vs : List Nat}, j ∈ vs → (wipe σ vs).set j none = wipe σ vs
  | v :: vs, h => by
    show ((wipe σ vs).set v none).set j none = (wipe σ vs).set v none
    by_cases hj : j = v
    · subst hj; rw [List.set_set]
    · rcases List.mem_cons.mp h with e | e
      · exact absurd e hj
      · rw [List.set_comm _ _ (Ne.symm hj), wipe_none e]
theorem wipe_sub {σ : L2.St} : ∀ {us vs : List Nat}, (∀ i ∈ us, i ∈ vs) → wipe (wipe σ vs) us = wipe σ vs
  | [], _, _ => rfl
  | u :: us, vs, h => by
    show (wipe (wipe σ vs) us).set u none = wipe σ vs
    rw [wipe_sub fun i hi => h i (List.mem_cons_of_mem _ hi), wipe_none (h u List.mem_cons_self)]
theorem wipe_wipe {σ : L2.St} {vs : List Nat} : wipe (wipe σ vs) vs = wipe σ vs := wipe_sub fun _ h => h

section
variable {K : PySem.W.Frag} {r : Rho} {n : Nat} {H : Hp} {σ : L2.St} {env env1 : Env}
theorem s_gs : ∀ {is : List Nat} {vs : List V} {ds : List D} {σ : L2.St} {env : Env} {Q : L2.St → Hp → Prop}, RepL K r n H vs ds → EnvR K r n H σ env → setN env is ds = some env1 →
    (∀ σ1, EnvR K r n H σ1 env1 → Apart is σ σ1 → Q σ1 H) → gsR is vs σ H Q
  | [], _, _, σ, env, Q, .nil, e, h, k => by cases h; exact ⟨rfl, k σ e fun _ _ => rfl⟩
  | [], _, _, σ, env, Q, .cons a b, e, h, k => by cases h
  | i :: is, _, _, σ, env, Q, .nil, e, h, k => by cases h
  | i :: is, _, _, σ, env, Q, .cons (v := v) (vs := vs) a b, e, h, k => by
    refine ⟨v, vs, rfl, ?_⟩
    refine s_gs b (e.set i a) h fun σ1 e1 ap => k σ1 e1 fun ws hw => ?_
    rw [ap ws fun j hj => hw j (List.mem_cons_of_mem _ hj), wipe_set (hw i List.mem_cons_self)]
theorem gsR_len : ∀ (is : List Nat) (ds : List D) (env : Env), setN env is ds = some env1 → ds.length = is.length
  | [], [], _, _ => rfl
  | [], _ :: _, _, h => by cases h
  | _ :: _, [], _, h => by cases h
  | i :: is, d :: ds, _, h => congrArg Nat.succ (gsR_len is ds _ h)
theorem s_g {g : Tg} {v : V} {d : D} {Q : L2.St → Hp → Prop} (a : RepV K r n H v d) (e : EnvR K r n H σ env) (h : asgT g d env = some env1)
    (k : ∀ σ1, EnvR K r n H σ1 env1 → Apart g.is σ σ1 → Q σ1 H) : rdG K g v σ H Q := by
  cases g with
  | name i =>
    cases h
    exact k _ (e.set i a) fun vs hv => wipe_set (hv i List.mem_cons_self)
  | tup is =>
    cases a with
    | @tup p vs ds hT q =>
      have hl := gsR_len is ds env h
      exact ⟨p, vs, rfl, hT, by rw [q.len]; exact hl, s_gs q e h k⟩
    | _ => cases h
end

/-! ### types -/
theorem kitAll (a b : String) (ha : a ∈ ["NoneType", "bool", "int", "str", "tuple", "list", "dict"]) (hb : b ∈ ["int", "bool", "str", "tuple", "list", "dict"]) : kitB a b = some (a == b || (a == "bool" && b == "int")) := by
  have h : (["NoneType", "bool", "int", "str", "tuple", "list", "dict"].all fun a => ["int", "bool", "str", "tuple", "list", "dict"].all fun b => decide (kitB a b = some (a == b || (a == "bool" && b == "int")))) = true := by decide +kernel
  exact of_decide_eq_true (List.all_eq_true.mp (List.all_eq_true.mp h a ha) b hb)
theorem nm_mem (t : Tn) : t.nm ∈ ["int", "bool", "str", "tuple", "list", "dict"] := by cases t <;> decide
theorem ty_of {K : PySem.W.Frag} {r : Rho} {h : Hm} {H : Hp} {v : V} {x : D} {a : String} (S : Sim K r h H) (rv : RepV K r h.next H v x) (e : tyN x h = some a) : TyX K H v (.type a) ∧ a ∈ ["NoneType", "bool", "int", "str", "tuple", "list", "dict"] := by
  cases rv with
  | non => cases e; exact ⟨.base .non, by decide⟩
  | exc k a => cases e
  | xob k h z f => cases e
  | bl b => cases e; exact ⟨.base (.bl b), by decide⟩
  | int b => cases e; exact ⟨.base (.int b), by decide⟩
  | str b => cases e; exact ⟨.base (.str b), by decide⟩
  | tup hT q =>
    cases e
    refine ⟨?_, by decide⟩
    rcases hT with (hT | ⟨o, hT⟩) | ⟨o, its, n, h1, h2, _⟩
    · exact .base (.tup hT)
    · exact .fTuple hT
    · exact .kTuple h1 h2
  | @ref p lp =>
    simp only [tyN] at e
    split at e
    · rename_i xs hp
      cases e
      obtain ⟨vs, h1, _⟩ := (S.obj p _ hp).2
      exact ⟨.base (.lst h1), by decide⟩
    · rename_i xs hp
      cases e
      obtain ⟨vs, h1, _⟩ := (S.obj p _ hp).2
      refine ⟨?_, by decide⟩
      rcases h1 with ⟨o, h1⟩ | ⟨o, its, n, h1, h2, _⟩
      · exact .base (.frz h1)
      · exact .kList h1 h2
    · rename_i xs hp
      cases e
      obtain ⟨vs, h1, _⟩ := (S.obj p _ hp).2
      exact ⟨.base (.dK h1), by decide⟩
    · cases e

/-! ### what is walked -/
/-- what a walked thing asks, by values -/
def rIt (K : PySem.W.Frag) : ItK → List V → Hp → (It → Hp → Prop) → Prop
  | .seq => fun vs H R => ∃ x, vs = [x] ∧ ((∃ a, x = .ref a ∧ (∃ xs, SqL K H a xs) ∧ R (Itl K a) H) ∨ (∃ a, x = .ref a ∧ (∃ xs, SqT K H a xs) ∧ R (Itt K a) H) ∨ ∃ z, x = .str z ∧ R (Its z) H)
  | .range1 => fun vs H R => ∃ j : Int, vs = [.int j] ∧ -(2 ^ 62) ≤ j ∧ j < 2 ^ 62 ∧ R (Itr 0 j.toNat) H
  | .range2 => fun vs H R => ∃ i j : Int, vs = [.int i, .int j] ∧ (-(2 ^ 62) ≤ i ∧ i < 2 ^ 62 ∧ -(2 ^ 62) ≤ j ∧ j < 2 ^ 62) ∧ R (Itr i (j - i).toNat) H
  | .range3 => fun vs H R => ∃ (i j c : Int) (n : Nat), vs = [.int i, .int j, .int c] ∧ RgC i j c n ∧ R (Itc i c n) H
  | .rev => fun vs H R => match vs with
    | [v] => ∃ (a : Addr) (xs : List V), v = .ref a ∧ ((SqL K H a xs ∧ R (Itv K a xs.length) H) ∨ (SqT K H a xs ∧ R (RT.ItvT K a xs.length) H))
    | _ => False
  | .keys => fun vs H R => match vs with
    | [v] => ∃ (d : Addr) (o : Obj), v = .ref d ∧ ((∃ kvs, H d = some (.frz o (.dK kvs)) ∧ R (Itk d o kvs) H) ∨ ∃ kvs, H d = some (.frz o (.dT kvs)) ∧ R (Itkt d o kvs) H)
    | _ => False
  | .vals => fun vs H R => match vs with
    | [v] => ∃ (d : Addr) (o : Obj) (kvs : List (Key × V)), v = .ref d ∧ H d = some (.frz o (.dK kvs)) ∧ R (Itd d o kvs) H
    | _ => False
  | .items => fun vs H R => match vs with
    | [v] => ∃ (d : Addr) (o : Obj) (kvs : List (Key × V)), v = .ref d ∧ H d = some (.frz o (.dK kvs)) ∧ R (Iti d o kvs) H
    | _ => False
  | .enum => fun vs H R => ∃ a xs, vs = [.ref a] ∧ SqL K H a xs ∧ R (Ite K a) H
  | .zip => fun vs H R => ∃ a b xs ys, vs = [.ref a, .ref b] ∧ SqL K H a xs ∧ SqL K H b ys ∧ R (Itz K a b) H
def rdI (K : PySem.W.Frag) (k : ItK) (ta : TA) : TI := fun σ H R => ta σ H fun vs H1 => rIt K k vs H1 R
theorem pi_at {X : Cx} {tg : Expr} {pins : List (Addr × Obj)} {σ : L2.St} {H : Hp} {s : Shared} {R : It → Hp → Prop} {v : Value} {x : V} (I : Inv X pins σ H s) (rv : RelV x v)
    (q : (∃ a, x = .ref a ∧ (∃ xs, SqL X.K H a xs) ∧ R (Itl X.K a) H) ∨ (∃ a, x = .ref a ∧ (∃ xs, SqT X.K H a xs) ∧ R (Itt X.K a) H) ∨ ∃ z, x = .str z ∧ R (Its z) H) :
    wpAny (model X.prog X.w) X.A (pyIter v) (PIE X pins σ tg R) X.xe s := by
  rcases q with ⟨a, rfl, ⟨xs, hq⟩, q⟩ | ⟨a, rfl, ⟨xs, hq⟩, q⟩ | ⟨z, rfl, q⟩
  · cases rv
    obtain ⟨its, _, pl, _⟩ := I.list hq
    refine wpAny_pyIter_list pl.isList ⟨s.heap.objs.size, [s.heap.objs.size], _, _, H, rfl, I.kept (t' := s.toks) (fun b o e => Heap.get?_push_of_some _ e), turn_list a _, ⟨_, Heap.get?_push_size _ rfl, rfl, rfl⟩, fun b hb => ?_, q⟩
    cases List.mem_singleton.mp hb
    exact I.fpOk (Nat.le_refl _) (I.hok.fresh (Nat.le_refl _))
  · cases rv
    obtain ⟨its, _, pl, _⟩ := I.tuple hq
    refine wpAny_pyIter_tuple (items := its.toArray) pl ⟨s.heap.objs.size, [s.heap.objs.size], _, _, H, rfl, I.kept (t' := s.toks) (fun b o e => Heap.get?_push_of_some _ e), turn_tuple a _, ⟨_, Heap.get?_push_size _ rfl, rfl, rfl⟩, fun b hb => ?_, q⟩
    cases List.mem_singleton.mp hb
    exact I.fpOk (Nat.le_refl _) (I.hok.fresh (Nat.le_refl _))
  · obtain ⟨t, rfl⟩ := rv
    cases hw : z.cps.all (· < 128)
    · exact wpAny_pyIter_wide hw (pi_one (tk := s.toks) I _ (turn_str _ z t "str_iterator" (.inr rfl)) ⟨_, Heap.get?_push_size _ rfl, rfl, rfl⟩ q)
    · exact wpAny_pyIter_ascii hw (pi_one (tk := s.toks) I _ (turn_str _ z t "str_ascii_iterator" (.inl rfl)) ⟨_, Heap.get?_push_size _ rfl, rfl, rfl⟩ q)
theorem zi_seq {X : Cx} {tg e : Expr} {te : TE} (he : PE X e te) : PI X tg e (rdI X.K .seq (tCons te tNil)) := by
  refine ⟨fun pins s σ H R I h => thn (he.run pins s σ H _ I h) fun v s1 ⟨x, H1, I1, r1, q1⟩ => ?_⟩
  obtain ⟨y, e1, q⟩ := q1
  cases e1
  exact pi_at I1 r1 q
theorem zi_range1 {X : Cx} {tg a : Expr} {ta : TA} {p pos : Pos} (hg : Gl X "range") (hm : X.mg "range" = none) (ha : PA X [a] ta) (hs : starEach [a] X.env = [(false, eval a X.env)] := by rfl) : PI X tg (.Call (.Name "range" p) [a] [] pos) (rdI X.K .range1 ta) := pi_range1 hg hm ha hs
theorem zi_range2 {X : Cx} {tg a b : Expr} {ta : TA} {p pos : Pos} (hg : Gl X "range") (hm : X.mg "range" = none) (ha : PA X [a, b] ta) (hs : starEach [a, b] X.env = [(false, eval a X.env), (false, eval b X.env)] := by rfl) (hs2 : starEach [b] X.env = [(false, eval b X.env)] := by rfl) :
    PI X tg (.Call (.Name "range" p) [a, b] [] pos) (rdI X.K .range2 ta) := pi_range2 hg hm ha hs hs2
theorem zi_range3 {X : Cx} {tg a b c : Expr} {ta : TA} {p pos : Pos} (hg : Gl X "range") (hm : X.mg "range" = none) (ha : PA X [a, b, c] ta) (hs : starEach [a, b, c] X.env = (false, eval a X.env) :: starEach [b, c] X.env := by rfl) (hpl : (backTo pos (starEach [b, c] X.env)).any (·.1) = false := by rfl) :
    PI X tg (.Call (.Name "range" p) [a, b, c] [] pos) (rdI X.K .range3 ta) := pi_range3 hg hm ha hs hpl
theorem zi_rev {X : Cx} {tg e : Expr} {te : TE} {p pos : Pos} (hg : Gl X "reversed") (hm : X.mg "reversed" = none) (he : PE X e te) (hs : starEach [e] X.env = (false, eval e X.env) :: starEach [] X.env := by rfl) : PI X tg (.Call (.Name "reversed" p) [e] [] pos) (rdI X.K .rev (tCons te tNil)) := RT.pi_revA hg hm he hs
theorem zi_keys {X : Cx} {tg e : Expr} {te : TE} (he : PE X e te) : PI X tg e (rdI X.K .keys (tCons te tNil)) := pi_keys he
theorem zi_vals {X : Cx} {tg e : Expr} {te : TE} {apos cpos : Pos} (he : PE X e te) (hbase : attributeBase e "values" X.env (eval e X.env) = eval e X.env := by rfl) (hline : (apos.endLine == cpos.line) = true := by rfl) :
    PI X tg (.Call (.Attribute e "values" apos) [] [] cpos) (rdI X.K .vals (tCons te tNil)) := pi_values he hbase hline
theorem zi_items {X : Cx} {e : Expr} {te : TE} {apos cpos tpos : Pos} {elts : List Expr} {kk : Nat} (he : PE X e te) (hbase : attributeBase e "items" X.env (eval e X.env) = eval e X.env := by rfl) (hline : (apos.endLine == cpos.line) = true := by rfl) :
    PI X (.Tuple elts kk tpos) (.Call (.Attribute e "items" apos) [] [] cpos) (rdI X.K .items (tCons te tNil)) := pi_items he hbase hline
theorem zi_zip {X : Cx} {e e2 : Expr} {ta : TA} {p pos tpos : Pos} {elts : List Expr} {kk : Nat} (hg : Gl X "zip") (hm : X.mg "zip" = none) (ha : PA X [e, e2] ta)
    (hs : starEach [e, e2] X.env = (false, eval e X.env) :: starEach [e2] X.env := by rfl) (hpl : (backTo pos (starEach [e2] X.env)).any (·.1) = false := by rfl) :
    PI X (.Tuple elts kk tpos) (.Call (.Name "zip" p) [e, e2] [] pos) (rdI X.K .zip ta) := pi_zip hg hm ha hs hpl
theorem zi_enum {X : Cx} {e : Expr} {ta : TA} {p pos tpos : Pos} {elts : List Expr} {kk : Nat} (hg : Gl X "enumerate") (hm : X.mg "enumerate" = none) (ha : PA X [e] ta) (hs : starEach [e] X.env = [(false, eval e X.env)] := by rfl) :
    PI X (.Tuple elts kk tpos) (.Call (.Name "enumerate" p) [e] [] pos) (rdI X.K .enum ta) := pi_enum hg hm ha hs
theorem small_c {a b c : Int} (hc : c = 2 ∨ c = 7) (ha : -(2 ^ 62) ≤ a) (ha' : a < 2 ^ 62) (hb : -(2 ^ 62) ≤ b) (hb' : b < 2 ^ 62) : Builtin.Range.small a b c = true := by
  unfold Builtin.Range.small Builtin.Range.rangeSize
  rcases hc with rfl | rfl
  · simp only [Builtin.Range.rangeFitsLong, Bool.and_eq_true, Bool.or_eq_true, decide_eq_true_eq, beq_iff_eq, show (2 : Int) > 0 by decide, if_true]
    split <;> omega
  · simp only [Builtin.Range.rangeFitsLong, Bool.and_eq_true, Bool.or_eq_true, decide_eq_true_eq, beq_iff_eq, show (7 : Int) > 0 by decide, if_true]
    split <;> omega
theorem rgc {a b c : Int} (hc : c = 2 ∨ c = 7) (ha : -(2 ^ 62) ≤ a) (ha' : a < 2 ^ 62) (hb : -(2 ^ 62) ≤ b) (hb' : b < 2 ^ 62) : RgC a b c (if a < b then (b - a - 1) / c + 1 else 0).toNat := by
  refine ⟨by omega, by omega, small_c hc ha ha' hb hb', ?_⟩
  unfold Builtin.Range.rangeSize
  rcases hc with rfl | rfl
  · rw [if_pos (by decide)]; split <;> omega
  · rw [if_pos (by decide)]; split <;> omega
theorem three_of {K : PySem.W.Frag} {r : Rho} {n : Nat} {H : Hp} {vs : List V} {a b c : D} (q : RepL K r n H vs [a, b, c]) : ∃ x y z, vs = [x, y, z] ∧ RepV K r n H x a ∧ RepV K r n H y b ∧ RepV K r n H z c := by
  cases q with
  | cons a q =>
    cases q with
    | cons b q =>
      cases q with
      | cons c q =>
        cases q
        exact ⟨_, _, _, rfl, a, b, c⟩
/-- an iterator gives just these -/
def Gives (K : PySem.W.Frag) (J : It) (items : List D) (gd : List (Nat × O)) (r1 : Rho) (n1 : Nat) (H1 : Hp) : Prop :=
  ∀ r h H, Sim K r h H → Ext K r1 n1 H1 r h.next H → stays gd h → ∀ i, (∀ d, items[i]? = some d → J.go i H ∧ ∀ x H', J.yld i H x H' → Sim K r h H' ∧ Ext K r h.next H r h.next H' ∧ RepV K r h.next H' x d) ∧ (items.length ≤ i → J.stop i H)
theorem gives_lst {K : PySem.W.Frag} {r1 : Rho} {h1 : Hm} {H1 : Hp} {a : Nat} {xs : List D} {o : O} (la : a < h1.next) (ho : o = .lst xs ∨ o = .fz xs) : Gives K (Itl K (r1 a)) xs [(a, o)] r1 h1.next H1 := by
  intro r h H S x st i
  have ha : h.get a = some o := st (a, o) (List.mem_singleton.mpr rfl)
  have er : r a = r1 a := x.at_ a la
  obtain ⟨vs, hs, q⟩ : ∃ vs, SqL K H (r1 a) vs ∧ RepL K r h.next H vs xs := by
    rcases ho with rfl | rfl
    · obtain ⟨vs, e1, q⟩ := (S.obj a _ ha).2
      rw [er] at e1
      exact ⟨vs, .inl (.inl e1), q⟩
    · obtain ⟨vs, e1, q⟩ := (S.obj a _ ha).2
      rw [er] at e1
      exact ⟨vs, e1.l, q⟩
  refine ⟨fun d hd => ?_, fun hl => ⟨vs, hs, by rw [q.len]; exact hl⟩⟩
  obtain ⟨v, ev, qv⟩ := q.get hd
  refine ⟨⟨vs, v, hs, ev⟩, fun y H' w => ?_⟩
  obtain ⟨rfl, w⟩ := w
  have := w vs hs
  rw [ev] at this
  cases this
  exact ⟨S, Ext.refl, qv⟩
theorem gives_tup {K : PySem.W.Frag} {r1 : Rho} {n1 : Nat} {H1 : Hp} {a : Addr} {xs : List D} {vs : List V} (hT : SqT K H1 a vs) (q1 : RepL K r1 n1 H1 vs xs) : Gives K (Itt K a) xs [] r1 n1 H1 := by
  intro r h H S x _ i
  have hs := x.tup _ _ hT
  have q := q1.ext x
  refine ⟨fun d hd => ?_, fun hl => ⟨vs, hs, by rw [q.len]; exact hl⟩⟩
  obtain ⟨v, ev, qv⟩ := q.get hd
  refine ⟨⟨vs, v, hs, ev⟩, fun y H' w => ?_⟩
  obtain ⟨rfl, w⟩ := w
  have := w vs hs
  rw [ev] at this
  cases this
  exact ⟨S, Ext.refl, qv⟩
theorem gives_rng {K : PySem.W.Frag} {r1 : Rho} {n1 : Nat} {H1 : Hp} {lo : Int} {m : Nat} {f : Nat → D} (hf : ∀ i : Nat, f i = .int (lo + i)) : Gives K (Itr lo m) ((List.range m).map f) [] r1 n1 H1 := by
  intro r h H S x _ i
  refine ⟨fun d hd => ?_, fun hl => (show m ≤ i by simpa using hl)⟩
  have hi : i < m := by simpa using (List.getElem?_eq_some_iff.mp hd).1
  rw [List.getElem?_map, List.getElem?_range hi] at hd
  cases hd
  refine ⟨hi, fun y H' w => ?_⟩
  obtain ⟨rfl, rfl⟩ := w
  rw [hf]
  exact ⟨S, Ext.refl, .int _⟩
theorem gives_rngC {K : PySem.W.Frag} {r1 : Rho} {n1 : Nat} {H1 : Hp} {lo c : Int} {m : Nat} : Gives K (Itc lo c m) ((List.range m).map fun (i : Nat) => .int (lo + (i : Int) * c)) [] r1 n1 H1 := by
  intro r h H S x _ i
  refine ⟨fun d hd => ?_, fun hl => (show m ≤ i by simpa using hl)⟩
  have hi : i < m := by simpa using (List.getElem?_eq_some_iff.mp hd).1
  rw [List.getElem?_map, List.getElem?_range hi] at hd
  cases hd
  refine ⟨hi, fun y H' w => ?_⟩
  obtain ⟨rfl, rfl⟩ := w
  exact ⟨S, Ext.refl, .int _⟩
theorem rev_at {α : Type} {xs : List α} {i : Nat} (hi : i < xs.length) : xs.reverse[i]? = xs[xs.length - 1 - i]? := List.getElem?_reverse hi
theorem gives_rev {K : PySem.W.Frag} {r1 : Rho} {h1 : Hm} {H1 : Hp} {a : Nat} {xs : List D} {o : O} {n : Nat} (la : a < h1.next) (ho : o = .lst xs ∨ o = .fz xs) (hn : n = xs.length) : Gives K (Itv K (r1 a) n) xs.reverse [(a, o)] r1 h1.next H1 := by
  intro r h H S x st i
  have ha : h.get a = some o := st (a, o) (List.mem_singleton.mpr rfl)
  have er : r a = r1 a := x.at_ a la
  obtain ⟨vs, hs, q⟩ : ∃ vs, SqL K H (r1 a) vs ∧ RepL K r h.next H vs xs := by
    rcases ho with rfl | rfl
    · obtain ⟨vs, e1, q⟩ := (S.obj a _ ha).2
      rw [er] at e1
      exact ⟨vs, .inl (.inl e1), q⟩
    · obtain ⟨vs, e1, q⟩ := (S.obj a _ ha).2
      rw [er] at e1
      exact ⟨vs, e1.l, q⟩
  refine ⟨fun d hd => ?_, fun hl => (show n ≤ i by rw [hn]; simpa using hl)⟩
  have hi : i < xs.length := by simpa using (List.getElem?_eq_some_iff.mp hd).1
  rw [rev_at hi] at hd
  obtain ⟨v, ev, qv⟩ := q.get hd
  refine ⟨⟨by omega, vs, v, hs, by rw [hn]; exact ev⟩, fun y H' w => ?_⟩
  obtain ⟨rfl, w⟩ := w
  have := w vs hs
  rw [hn, ev] at this
  cases this
  exact ⟨S, Ext.refl, qv⟩
theorem gives_revT {K : PySem.W.Frag} {r1 : Rho} {n1 : Nat} {H1 : Hp} {a : Addr} {xs : List D} {vs : List V} {n : Nat} (hT : SqT K H1 a vs) (q1 : RepL K r1 n1 H1 vs xs) (hn : n = xs.length) : Gives K (RT.ItvT K a n) xs.reverse [] r1 n1 H1 := by
  intro r h H S x _ i
  have hs := x.tup _ _ hT
  have q := q1.ext x
  refine ⟨fun d hd => ?_, fun hl => (show n ≤ i by rw [hn]; simpa using hl)⟩
  have hi : i < xs.length := by simpa using (List.getElem?_eq_some_iff.mp hd).1
  rw [rev_at hi] at hd
  obtain ⟨v, ev, qv⟩ := q.get hd
  refine ⟨⟨by omega, vs, v, hs, by rw [hn]; exact ev⟩, fun y H' w => ?_⟩
  obtain ⟨rfl, w⟩ := w
  have := w vs hs
  rw [hn, ev] at this
  cases this
  exact ⟨S, Ext.refl, qv⟩
theorem gives_str {K : PySem.W.Frag} {r1 : Rho} {n1 : Nat} {H1 : Hp} {z : Str} : Gives K (Its z) (z.cps.toList.map fun c => .str ⟨#[c]⟩) [] r1 n1 H1 := by
  intro r h H S x _ i
  refine ⟨fun d hd => ?_, fun hl => (show z.cps.size ≤ i by simpa using hl)⟩
  rw [List.getElem?_map] at hd
  obtain ⟨c, hc, e⟩ := Option.map_eq_some_iff.mp hd
  subst e
  have hc2 : z.cps[i]? = some c := by rw [← Array.getElem?_toList]; exact hc
  refine ⟨(Array.getElem?_eq_some_iff.mp hc2).1, fun y H' w => ?_⟩
  obtain ⟨rfl, c', e, rfl⟩ := w
  rw [hc2] at e
  cases e
  exact ⟨S, Ext.refl, .str _⟩
theorem gives_keys {K : PySem.W.Frag} {r1 : Rho} {n1 : Nat} {H1 : Hp} {d : Addr} {ob : Obj} {ws : List (Key × V)} {kvs : List (Key × D)} (hd : H1 d = some (.frz ob (.dK ws))) (q1 : RepK K r1 n1 H1 ws kvs) :
    Gives K (Itk d ob ws) (kvs.map fun kv => keyD kv.1) [] r1 n1 H1 := by
  intro r h H S x _ i
  have hd' := x.frz _ _ _ hd
  have q := RepK.ext x q1
  have el : ws.length = kvs.length := by simpa using congrArg List.length q.1
  refine ⟨fun y hy => ?_, fun hl => ⟨hd', by rw [el]; simpa using hl⟩⟩
  obtain ⟨v, ev, qv⟩ := (repKeys q).get hy
  rw [List.getElem?_map] at ev
  obtain ⟨kw, e1, e2⟩ := Option.map_eq_some_iff.mp ev
  refine ⟨⟨hd', (List.getElem?_eq_some_iff.mp e1).1⟩, fun z H' w => ?_⟩
  obtain ⟨rfl, k, v', e3, rfl⟩ := w
  rw [e1] at e3
  cases e3
  subst e2
  exact ⟨S, Ext.refl, qv⟩
theorem gives_keysT {K : PySem.W.Frag} {r1 : Rho} {n1 : Nat} {H1 : Hp} {d : Addr} {ob : Obj} {ws : List (List Key × V)} {kvs : List (List Key × D)} (hd : H1 d = some (.frz ob (.dT ws))) (q1 : RepK K r1 n1 H1 ws kvs) :
    Gives K (Itkt d ob ws) (kvs.map fun kv => .tup (kv.1.map keyD)) [] r1 n1 H1 := by
  intro r h H S x _ i
  have hd' := x.frz _ _ _ hd
  have el : ws.length = kvs.length := by simpa using congrArg List.length q1.1
  refine ⟨fun y hy => ?_, fun hl => ⟨hd', by rw [el]; simpa using hl⟩⟩
  rw [List.getElem?_map] at hy
  obtain ⟨kv, e1, e2⟩ := Option.map_eq_some_iff.mp hy
  have hi : i < kvs.length := (List.getElem?_eq_some_iff.mp e1).1
  have e5 : (ws.map (·.1))[i]? = some kv.1 := by rw [q1.1, List.getElem?_map, e1]; rfl
  refine ⟨⟨hd', by rw [el]; exact hi⟩, fun z H' w => ?_⟩
  obtain ⟨rfl, k, v', q, e3, rfl, e4⟩ := w
  rw [List.getElem?_map, e3] at e5
  cases e5
  subst e2
  exact ⟨S, Ext.refl, .tup (.inl (.inl e4)) (repKeyL _)⟩
theorem gives_vals {K : PySem.W.Frag} {r1 : Rho} {n1 : Nat} {H1 : Hp} {d : Addr} {ob : Obj} {ws : List (Key × V)} {kvs : List (Key × D)} (hd : H1 d = some (.frz ob (.dK ws))) (q1 : RepK K r1 n1 H1 ws kvs) :
    Gives K (Itd d ob ws) (kvs.map fun kv => kv.2) [] r1 n1 H1 := by
  intro r h H S x _ i
  have hd' := x.frz _ _ _ hd
  have q := RepK.ext x q1
  have el : ws.length = kvs.length := by simpa using congrArg List.length q.1
  refine ⟨fun y hy => ?_, fun hl => ⟨hd', by rw [el]; simpa using hl⟩⟩
  obtain ⟨v, ev, qv⟩ := q.2.get hy
  rw [List.getElem?_map] at ev
  obtain ⟨kw, e1, e2⟩ := Option.map_eq_some_iff.mp ev
  refine ⟨⟨hd', (List.getElem?_eq_some_iff.mp e1).1⟩, fun z H' w => ?_⟩
  obtain ⟨rfl, k, e3⟩ := w
  rw [e1] at e3
  cases e3
  subst e2
  exact ⟨S, Ext.refl, qv⟩
theorem gives_items {K : PySem.W.Frag} {r1 : Rho} {n1 : Nat} {H1 : Hp} {d : Addr} {ob : Obj} {ws : List (Key × V)} {kvs : List (Key × D)} (hd : H1 d = some (.frz ob (.dK ws))) (q1 : RepK K r1 n1 H1 ws kvs) :
    Gives K (Iti d ob ws) (kvs.map fun kv => .tup [keyD kv.1, kv.2]) [] r1 n1 H1 := by
  intro r h H S x _ i
  have hd' := x.frz _ _ _ hd
  have q := RepK.ext x q1
  have el : ws.length = kvs.length := by simpa using congrArg List.length q.1
  refine ⟨fun y hy => ?_, fun hl => ⟨hd', by rw [el]; simpa using hl⟩⟩
  rw [List.getElem?_map] at hy
  obtain ⟨kv, e1, e2⟩ := Option.map_eq_some_iff.mp hy
  have e6 : (kvs.map fun kv => kv.2)[i]? = some kv.2 := by rw [List.getElem?_map, e1]; rfl
  obtain ⟨v, ev, qv⟩ := q.2.get e6
  rw [List.getElem?_map] at ev
  obtain ⟨kw, e3, e4⟩ := Option.map_eq_some_iff.mp ev
  have e5 : (ws.map (·.1))[i]? = some kv.1 := by rw [q.1, List.getElem?_map, e1]; rfl
  rw [List.getElem?_map, e3] at e5
  refine ⟨⟨hd', (List.getElem?_eq_some_iff.mp e3).1⟩, fun z H' w => ?_⟩
  obtain ⟨T, k, v', e7, rfl, hT, rfl⟩ := w
  rw [e3] at e7
  cases e7
  cases e5
  subst e2 e4
  have xx := (Free.ext (K := K) (r := r) (n := h.next) (u := .tup [kV kv.1, v']) (.inl hT))
  exact ⟨S.grow hT, xx, .tup (.inl (.inl upd_same)) (.cons (repKey _) (.cons (qv.ext xx) .nil))⟩
theorem gives_zip {K : PySem.W.Frag} {r1 : Rho} {h1 : Hm} {H1 : Hp} {a b : Nat} {xs ys : List D} (la : a < h1.next) (lb : b < h1.next) :
    Gives K (Itz K (r1 a) (r1 b)) ((xs.zip ys).map fun p => D.tup [p.1, p.2]) [(a, .lst xs), (b, .lst ys)] r1 h1.next H1 := by
  intro r h H S x st i
  have ha : h.get a = some (.lst xs) := st (a, .lst xs) (by simp)
  have hb : h.get b = some (.lst ys) := st (b, .lst ys) (by simp)
  have era : r a = r1 a := x.at_ a la
  have erb : r b = r1 b := x.at_ b lb
  obtain ⟨vs, e1, q1⟩ := (S.obj a _ ha).2
  obtain ⟨ws, e2, q2⟩ := (S.obj b _ hb).2
  rw [era] at e1
  rw [erb] at e2
  have s1 : SqL K H (r1 a) vs := .inl (.inl e1)
  have s2 : SqL K H (r1 b) ws := .inl (.inl e2)
  refine ⟨fun d hd => ?_, fun hl => ⟨vs, ws, s1, s2, ?_⟩⟩
  · rw [List.getElem?_map] at hd
    obtain ⟨⟨dx, dy⟩, e3, e4⟩ := Option.map_eq_some_iff.mp hd
    rw [List.getElem?_zip_eq_some] at e3
    obtain ⟨vx, f1, g1⟩ := q1.get e3.1
    obtain ⟨vy, f2, g2⟩ := q2.get e3.2
    refine ⟨⟨vs, ws, vx, vy, s1, s2, f1, f2⟩, fun z H' w => ?_⟩
    obtain ⟨T, x', y', rfl, hT, rfl, w1, w2⟩ := w
    have i1 := w1 vs s1
    have i2 := w2 ws s2
    rw [f1] at i1
    rw [f2] at i2
    cases i1
    cases i2
    subst e4
    have xx := (Free.ext (K := K) (r := r) (n := h.next) (u := .tup [vx, vy]) (.inl hT))
    exact ⟨S.grow hT, xx, .tup (.inl (.inl upd_same)) (.cons (g1.ext xx) (.cons (g2.ext xx) .nil))⟩
  · have hl' : (xs.zip ys).length ≤ i := by simpa using hl
    rw [List.length_zip] at hl'
    rw [q1.len, q2.len]
    omega
theorem gives_enum {K : PySem.W.Frag} {r1 : Rho} {h1 : Hm} {H1 : Hp} {a : Nat} {xs : List D} (la : a < h1.next) :
    Gives K (Ite K (r1 a)) (xs.zipIdx.map fun p => D.tup [.int (p.2 : Nat), p.1]) [(a, .lst xs)] r1 h1.next H1 := by
  intro r h H S x st i
  have ha : h.get a = some (.lst xs) := st (a, .lst xs) (by simp)
  have er : r a = r1 a := x.at_ a la
  obtain ⟨vs, e1, q1⟩ := (S.obj a _ ha).2
  rw [er] at e1
  have s1 : SqL K H (r1 a) vs := .inl (.inl e1)
  refine ⟨fun d hd => ?_, fun hl => ⟨vs, s1, by rw [q1.len]; simpa using hl⟩⟩
  rw [List.getElem?_map, List.getElem?_zipIdx] at hd
  cases ex : xs[i]? with
  | none => rw [ex] at hd; cases hd
  | some y =>
    rw [ex] at hd
    obtain ⟨v, f1, g1⟩ := q1.get ex
    refine ⟨⟨vs, v, s1, f1⟩, fun z H' w => ?_⟩
    obtain ⟨T, x', rfl, hT, rfl, w1⟩ := w
    have i1 := w1 vs s1
    rw [f1] at i1
    cases i1
    simp only [Option.map_some, Option.some.injEq] at hd
    subst hd
    have xx := (Free.ext (K := K) (r := r) (n := h.next) (u := .tup [.int (i : Nat), v]) (.inl hT))
    exact ⟨S.grow hT, xx, .tup (.inl (.inl upd_same)) (.cons (by rw [Nat.zero_add]; exact .int _) (.cons (g1.ext xx) .nil))⟩
theorem s_walk {K : PySem.W.Frag} {r : Rho} {h : Hm} {H : Hp} {k : ItK} {vs : List V} {ds items : List D} {gd : List (Nat × O)} {R : It → Hp → Prop} (S : Sim K r h H) (q : RepL K r h.next H vs ds) (e : walk k ds h = some (items, gd))
    (p : ∀ J, Gives K J items gd r h.next H → R J H) : rIt K k vs H R := by
  cases k with
  | seq =>
    simp only [walk] at e
    split at e
    · obtain ⟨v, rfl, a⟩ := one_of q
      cases e
      cases a with
      | tup hT q1 => exact ⟨_, rfl, .inr (.inl ⟨_, rfl, ⟨_, hT⟩, p _ (gives_tup hT q1)⟩)⟩
    · obtain ⟨v, rfl, a⟩ := one_of q
      cases e
      cases a with
      | str z =>
        exact ⟨_, rfl, .inr (.inr ⟨_, rfl, p _ gives_str⟩)⟩
    · rename_i a0
      obtain ⟨v, rfl, a⟩ := one_of q
      cases a with
      | ref la =>
        split at e
        · rename_i xs ha
          cases e
          obtain ⟨us, h1, _⟩ := (S.obj a0 _ ha).2
          exact ⟨_, rfl, .inl ⟨_, rfl, ⟨us, .inl (.inl h1)⟩, p _ (gives_lst (h1 := h) la (.inl rfl))⟩⟩
        · rename_i xs ha
          cases e
          obtain ⟨us, h1, _⟩ := (S.obj a0 _ ha).2
          exact ⟨_, rfl, .inl ⟨_, rfl, ⟨us, h1.l⟩, p _ (gives_lst (h1 := h) la (.inr rfl))⟩⟩
        · cases e
    · cases e
  | range1 =>
    simp only [walk] at e
    split at e
    · obtain ⟨v, rfl, a⟩ := one_of q
      cases a
      split at e
      · rename_i hn
        cases e
        exact ⟨_, rfl, hn.1, hn.2, p _ (gives_rng fun i => by simp)⟩
      · cases e
    · cases e
  | range2 =>
    simp only [walk] at e
    split at e
    · obtain ⟨v, w, rfl, a, b⟩ := two_of q
      cases a
      cases b
      split at e
      · rename_i hn
        cases e
        exact ⟨_, _, rfl, ⟨hn.1.1, hn.1.2, hn.2.1, hn.2.2⟩, p _ (gives_rng fun i => rfl)⟩
      · cases e
    · cases e
  | range3 =>
    simp only [walk] at e
    split at e
    · obtain ⟨v, w, u, rfl, a, b, c⟩ := three_of q
      cases a
      cases b
      cases c
      split at e
      · rename_i hn
        cases e
        exact ⟨_, _, _, _, rfl, rgc hn.1 hn.2.1.1 hn.2.1.2 hn.2.2.1 hn.2.2.2, p _ gives_rngC⟩
      · cases e
    · cases e
  | rev =>
    simp only [walk] at e
    split at e
    · obtain ⟨v, rfl, a⟩ := one_of q
      cases e
      cases a with
      | tup hT q1 => exact ⟨_, _, rfl, .inr ⟨hT, p _ (gives_revT hT q1 q1.len)⟩⟩
    · rename_i a0
      obtain ⟨v, rfl, a⟩ := one_of q
      cases a with
      | ref la =>
        split at e
        · rename_i xs ha
          cases e
          obtain ⟨us, h1, q1⟩ := (S.obj a0 _ ha).2
          exact ⟨_, us, rfl, .inl ⟨.inl (.inl h1), p _ (gives_rev (h1 := h) la (.inl rfl) q1.len)⟩⟩
        · rename_i xs ha
          cases e
          obtain ⟨us, h1, q1⟩ := (S.obj a0 _ ha).2
          exact ⟨_, us, rfl, .inl ⟨h1.l, p _ (gives_rev (h1 := h) la (.inr rfl) q1.len)⟩⟩
        · cases e
    · cases e
  | keys =>
    simp only [walk] at e
    split at e
    · rename_i a0
      obtain ⟨v, rfl, a⟩ := one_of q
      cases a with
      | ref la =>
        split at e
        · rename_i kvs ha
          cases e
          obtain ⟨ob, ws, h1, q1⟩ := (S.obj a0 _ ha).2
          exact ⟨_, ob, rfl, .inl ⟨ws, h1, p _ (gives_keys h1 q1)⟩⟩
        · rename_i kvs ha
          cases e
          obtain ⟨ob, ws, h1, q1⟩ := (S.obj a0 _ ha).2
          exact ⟨_, ob, rfl, .inr ⟨ws, h1, p _ (gives_keysT h1 q1)⟩⟩
        · cases e
    · cases e
  | vals =>
    simp only [walk] at e
    split at e
    · rename_i a0
      obtain ⟨v, rfl, a⟩ := one_of q
      cases a with
      | ref la =>
        split at e
        · rename_i kvs ha
          cases e
          obtain ⟨ob, ws, h1, q1⟩ := (S.obj a0 _ ha).2
          exact ⟨_, ob, ws, rfl, h1, p _ (gives_vals h1 q1)⟩
        · cases e
    · cases e
  | items =>
    simp only [walk] at e
    split at e
    · rename_i a0
      obtain ⟨v, rfl, a⟩ := one_of q
      cases a with
      | ref la =>
        split at e
        · rename_i kvs ha
          cases e
          obtain ⟨ob, ws, h1, q1⟩ := (S.obj a0 _ ha).2
          exact ⟨_, ob, ws, rfl, h1, p _ (gives_items h1 q1)⟩
        · cases e
    · cases e
  | zip =>
    simp only [walk] at e
    split at e
    · rename_i a0 b0
      obtain ⟨v, w, rfl, a, b⟩ := two_of q
      cases a with
      | ref la =>
        cases b with
        | ref lb =>
          split at e
          · rename_i xs ys ha hb
            cases e
            obtain ⟨us, h1, _⟩ := (S.obj a0 _ ha).2
            obtain ⟨ws, h2, _⟩ := (S.obj b0 _ hb).2
            exact ⟨_, _, us, ws, rfl, .inl (.inl h1), .inl (.inl h2), p _ (gives_zip (h1 := h) la lb)⟩
          · cases e
    · cases e
  | enum =>
    simp only [walk] at e
    split at e
    · rename_i a0
      obtain ⟨v, rfl, a⟩ := one_of q
      cases a with
      | ref la =>
        split at e
        · rename_i xs ha
          cases e
          obtain ⟨us, h1, _⟩ := (S.obj a0 _ ha).2
          exact ⟨_, us, rfl, .inl (.inl h1), p _ (gives_enum (h1 := h) la)⟩
        · cases e
    · cases e
end Z

set_option maxRecDepth 100000
set_option maxHeartbeats 2000000
/-! ZJ: expressions: their readings in the layer, and that the model's answers suffice. -/
namespace Z
open PySem L2

def cV : Cst → V
  | .non => .non
  | .bl b => .bl b
  | .int i => .int i
  | .str s => .str (Str.ofString s)
/-- what a reading leans on: the written part, the program, the defs' promises, the constants, what is wished of an error -/
structure RC where
  K : PySem.W.Frag
  P : Prog
  sp : String → Sp
  gv : String → V
  W : WX
  xa : Addr := 0
  xc : Value := .none
  xd : Option Addr := none
abbrev RC.with (c : RC) (W : WX) : RC := { c with W := W }
abbrev noW : WX := fun _ _ _ _ => False
abbrev RC.wt (c : RC) (σ : L2.St) : XK := fun cls d H => c.W cls d σ H
def rTix (K : PySem.W.Frag) : V → List V → Hp → VK → Prop := fun x xs H Q => ∃ p, ∃ ys : List Str, ∃ z j, x = .ref p ∧ xs = [.str z] ∧ SqT K H p (ys.map V.str) ∧ ys[j]? = some z ∧ (∀ m, m < j → ys[m]? ≠ some z) ∧ Q (.int (j : Nat)) H
def rIsi2 (K : PySem.W.Frag) (t u : Tn) (a : TE) : TE := tCB (rIsiT K) (tCons a (tCons (tTup (tCons (tC (.ty t.nm)) (tCons (tC (.ty u.nm)) tNil))) tNil))
/-- readings, two by two -/
def pairT : List TE → List (TE × TE)
  | a :: b :: r => (a, b) :: pairT r
  | _ => []
def pairL : List V → List (V × V)
  | a :: b :: r => (a, b) :: pairL r
  | _ => []
mutual
def rdE (c : RC) : E → TE
  | .var i => tVar i
  | .con k => tC (cV k)
  | .glo x => tC (c.gv x)
  | .bin o a b => tOp (rB c.K o) (rdE c a) (rdE c b)
  | .neg a => tUn (rU fun i => .int (-i)) (rdE c a)
  | .cmp o a b => tOp (rCm c.K o) (rdE c a) (rdE c b)
  | .chn o o' a b d => tChain (rCm c.K o) (rCm c.K o') (rdE c a) (rdE c b) (rdE c d)
  | .and a b => tAndV (rdE c a) (rdE c b)
  | .or a b => tOrV (rdE c a) (rdE c b)
  | .not a => tNotV (rdE c a)
  | .ife t a b => tIf (rdT c t) (rdE c a) (rdE c b)
  | .idx a b => tOp (rIx c.K) (rdE c a) (rdE c b)
  | .dgt a b => tDGet (rdE c a) (rdE c b)
  | .slc a lo hi => tSl (rSlZ c.K) (rdE c a) (rdO c lo) (rdO c hi)
  | .att a f => tFld c.K (rdE c a) (Str.ofString f)
  | .tup es => tTup (rdA c es)
  | .lst es => tLst (rdA c es)
  | .dict es => (match es with
    | .nil => tDNewK
    | _ => tDisp (pairT (rdL c es)))
  | .call f es ds => fun σ H Q => rdA c es σ H fun vs H1 => c.sp f (vs ++ ds.map cV) H1 Q (c.wt σ)
  | .meth o m es ds => fun σ H Q => rdE c o σ H fun x H1 => ∃ a dx fs cn f, x = .ref a ∧ H1 a = some (.ins (ca c.K cn) dx fs) ∧ c.P.mt cn m = some f ∧ fs.lookup (Str.ofString m) = none ∧
      rdA c es σ H1 fun vs H2 => c.sp f (x :: (vs ++ ds.map cV)) H2 Q (c.wt σ)
  | .new cn es => fun σ H Q => rdA c es σ H fun vs H1 => ∀ x dx, H1 x = none → H1 dx = none → dx ≠ x → ∃ f, c.P.mt cn "__init__" = some f ∧
      c.sp f (.ref x :: vs) (upd (upd H1 dx (.own x)) x (.ins (ca c.K cn) dx [])) (fun v H2 => v = .non ∧ Q (.ref x) H2) (c.wt σ)
  | .bi b es => tCB (rBi c.K b) (rdA c es)
  | .bm b o es => tBmZ c.K b (rdE c o) (rdA c es)
  | .gix x e => fun σ H Q => tyV c.K "tuple" (c.gv x) H ∧ rdE c e σ H fun y H2 => rTix c.K (c.gv x) [y] H2 Q
  | .isi a t => tCB (rIsi c.K) (tCons (rdE c a) (tCons (tC (.ty t.nm)) tNil))
  | .isi2 a t u => rIsi2 c.K t u (rdE c a)
  | .comp elt own g k es tst => tLc (rdI c.K k (rdA c es)) (rdG c.K g) (rdT (c.with noW) tst) (rdE (c.with noW) elt) own
  | .fst _ => fun _ _ _ => False
  | .rsl a => tRevL c.K (rdE c a)
  | .dictT => tDNewT
  | .dgtT a es => tDGet (rdE c a) (tTup (rdA c es))
  | .getT a es d => tDGet2 (rdE c a) (tTup (rdA c es)) (tC (cV d))
  | .lck _ e => tLockE (rdE c e)
  | .isx i cn => fun σ H Q => ∃ D, c.xc = .ref D ∧ c.xd = none ∧ ExcC c.K D ∧ σ[i]? = some (some (.ref c.xa)) ∧ ∃ b, PySem.W.kitOne c.K (.ref D) (.ref (ca c.K cn)) = some b ∧ Q (.bl b) H
  | .isxB i cn => fun σ H Q => ∃ D, c.xc = .ref D ∧ c.xd = none ∧ ExcC c.K D ∧ σ[i]? = some (some (.ref c.xa)) ∧ ∃ b, PySem.W.kitOne c.K (.ref D) (.type cn) = some b ∧ Q (.bl b) H
  | .lrg a => tLstRg (tRg1 (rdE c a))
  | .iso a cn => tCB (Kept.rIsO c.K) (tCons (rdE c a) (tCons (tC (.ref (ca c.K cn))) tNil))
  | .isoB a cn => tCB (Kept.rIsO c.K) (tCons (rdE c a) (tCons (tC (.ty cn)) tNil))
  | .isc a cn => tCB (rIsi c.K) (tCons (rdE c a) (tCons (tC (.ref (ca c.K cn))) tNil))
  | .new0 cn => fun σ H Q => ∀ x dx, H x = none → H dx = none → dx ≠ x → Q (.ref x) (upd (upd H dx (.own x)) x (.ins (ca c.K cn) dx []))
def rdA (c : RC) : Es → TA
  | .nil => tNil
  | .cons e es => tCons (rdE c e) (rdA c es)
def rdL (c : RC) : Es → List TE
  | .nil => []
  | .cons e es => rdE c e :: rdL c es
def rdO (c : RC) : Eo → TO
  | .none => tNoPart
  | .some e => tPart (rdE c e)
def rdT (c : RC) : T → TT
  | .yes => fun _ H Q => Q true H
  | .cmp o a b => tTest (tOp (rCm c.K o) (rdE c a) (rdE c b))
  | .chn o o' a b d => tTest (tChain (rCm c.K o) (rCm c.K o') (rdE c a) (rdE c b) (rdE c d))
  | .and a b => tAnd (rdT c a) (rdT c b)
  | .or a b => tOr (rdT c a) (rdT c b)
  | .not a => tNot (rdT c a)
  | .tru a => fun σ H Q => rdE c a σ H fun x H' => ∃ k, TruV c.K x H' k ∧ Q k H'
end

/-- isinstance of an own class's thing and an own class -/
structure IsC (K : PySem.W.Frag) (C C' : Addr) (b : Bool) : Prop where
  cl : Cls K C
  ha : PySem.W.findIn K (.ref C) "__class__" = some (some (.builtin "object.__class__"))
  hn : PySem.W.specialIn K (.builtin "object.__class__") "__get__" = some (some (.builtin "getset_descriptor.__get__"))
  htk : PySem.W.takesIn K (.builtin "object.__class__") = some true
  hm : PySem.W.mroIn K C (.type "object") = some true
  one : PySem.W.kitOne K (.ref C) (.ref C') = some b
/-- what the readings' soundness leans on -/
structure RCok (c : RC) (cl : Cl) : Prop where
  sp : ∀ f ds h res h', cl f ds h = some (res, h') → ∀ r H vs Q E, Sim c.K r h H → RepL c.K r h.next H vs ds → PG c.K E r h H (RepV c.K) Q res h' → c.sp f vs H Q E
  gv : ∀ x d, c.P.glob x = some d → ∀ r n H, RepV c.K r n H (c.gv x) d
  gt : ∀ x xs, c.P.glob x = some (.tup xs) → ∀ H, tyV c.K "tuple" (c.gv x) H
  fld : ∀ cn f, c.P.fld cn f = true → Cls c.K (ca c.K cn) ∧ NoAttr c.K (ca c.K cn) (Str.ofString f)
  sub : ∀ cn cm b, c.P.sub cn cm = some b → IsC c.K (ca c.K cn) (ca c.K cm) b
  exm : ∀ k cm b, c.P.exm k cm = some b → PySem.W.exmOne c.K (.ref (ca c.K k)) (.ref (ca c.K cm)) = some b
  exs : ∀ k cm b, c.P.exs k cm = some b → ExcC c.K (ca c.K k) ∧ PySem.W.kitOne c.K (.ref (ca c.K k)) (.ref (ca c.K cm)) = some b
  exb : ∀ k cm b, c.P.exb k cm = some b → ExcC c.K (ca c.K k) ∧ PySem.W.kitOne c.K (.ref (ca c.K k)) (.type cm) = some b
  xk : ∀ k a, c.P.xk = some (k, a) → c.xa = a ∧ c.xc = .ref (ca c.K k) ∧ c.xd = none
theorem RCok.with {c : RC} {cl : Cl} (k : RCok c cl) (W : WX) : RCok (c.with W) cl := ⟨k.sp, k.gv, k.gt, k.fld, k.sub, k.exm, k.exs, k.exb, k.xk⟩
/-- within a suite: the error of class k is at a -/
abbrev RC.exc (c : RC) (k : String) (a : Addr) (cls : Value) (d : Option Addr) : RC := { c with W := noW, P := { c.P with xk := some (k, a) }, xa := a, xc := cls, xd := d }
theorem RCok.exc {c : RC} {cl : Cl} (k : RCok c cl) (kk : String) (a : Addr) : RCok (c.exc kk a (.ref (ca c.K kk)) none) cl :=
  ⟨k.sp, k.gv, k.gt, k.fld, k.sub, k.exm, k.exs, k.exb, fun k' a' e => by
    have e' := Option.some.inj e
    injection e' with e1 e2
    subst e1 e2
    exact ⟨rfl, rfl, rfl⟩⟩

/-- a bind that came to an end -/
theorem bnd_cases {α β : Type} {m : Res α} {f : α → Hm → Res β} {res : Except String β} {h' : Hm} (e : bnd m f = some (res, h')) :
    (∃ x h1, m = some (.ok x, h1) ∧ f x h1 = some (res, h')) ∨ ∃ k, m = some (.error k, h') ∧ res = .error k := by
  match m, e with
  | some (.ok x, h1), e => exact .inl ⟨x, h1, rfl, e⟩
  | some (.error k, h1), e => cases e; exact .inr ⟨k, rfl, rfl⟩
theorem bndN_cases {α β : Type} {m : Res α} {f : α → Hm → Res β} {res : Except String β} {h' : Hm} (e : bndN m f = some (res, h')) : ∃ x h1, m = some (.ok x, h1) ∧ f x h1 = some (res, h') := by
  match m, e with
  | some (.ok x, h1), e => exact ⟨x, h1, rfl, e⟩
theorem liftO_cases {α : Type} {o : Option α} {h h' : Hm} {res : Except String α} (e : liftO o h = some (res, h')) : ∃ x, o = some x ∧ res = .ok x ∧ h' = h := by
  cases o with
  | none => cases e
  | some x => cases e; exact ⟨x, rfl, rfl, rfl⟩

def SE (cl : Cl) (e : E) : Prop := ∀ (c : RC), RCok c cl → ∀ env h res h', ev c.P cl e env h = some (res, h') → ∀ r σ H Q, Sim c.K r h H → EnvR c.K r h.next H σ env → PG c.K (c.wt σ) r h H (RepV c.K) Q res h' → rdE c e σ H Q
def SA (cl : Cl) (e : Es) : Prop := ∀ (c : RC), RCok c cl → ∀ env h res h', evs c.P cl e env h = some (res, h') → ∀ r σ H Q, Sim c.K r h H → EnvR c.K r h.next H σ env → PG c.K (c.wt σ) r h H (RepL c.K) Q res h' → rdA c e σ H Q
def SO (cl : Cl) (e : Eo) : Prop := ∀ (c : RC), RCok c cl → ∀ env h res h', evO c.P cl e env h = some (res, h') → ∀ r σ H Q, Sim c.K r h H → EnvR c.K r h.next H σ env → PG c.K (c.wt σ) r h H (fun _ _ _ x y => x = y) Q res h' → rdO c e σ H Q
def ST (cl : Cl) (e : T) : Prop := ∀ (c : RC), RCok c cl → ∀ env h res h', evT c.P cl e env h = some (res, h') → ∀ r σ H Q, Sim c.K r h H → EnvR c.K r h.next H σ env → PG c.K (c.wt σ) r h H (fun _ _ _ x y => x = y) Q res h' → rdT c e σ H Q

section
variable {cl : Cl} {c : RC} {a b : E} {env : Env} {h h' : Hm} {r : Rho} {σ : L2.St} {H : Hp}
/-- one operand, then f -/
theorem s1 {β : Type} (ha : SE cl a) (k : RCok c cl) {f : D → Hm → Res β} {res : Except String β} (e : bnd (ev c.P cl a env h) f = some (res, h')) (S : Sim c.K r h H) (en : EnvR c.K r h.next H σ env)
    {B : Type} {R : Rho → Nat → Hp → B → β → Prop} {Q0 : B → Hp → Prop} (p : PG c.K (c.wt σ) r h H R Q0 res h') {Q : VK}
    (w : ∀ x h1 v r1 H1, f x h1 = some (res, h') → Sim c.K r1 h1 H1 → Ext c.K r h.next H r1 h1.next H1 → RepV c.K r1 h1.next H1 v x → EnvR c.K r1 h1.next H1 σ env → PG c.K (c.wt σ) r1 h1 H1 R Q0 res h' → Q v H1) : rdE c a σ H Q := by
  rcases bnd_cases e with ⟨x, h1, e1, e2⟩ | ⟨kk, e1, e2⟩
  · exact ha c k env h _ h1 e1 r σ H Q S en fun v r1 H1 S1 x1 q1 => w x h1 v r1 H1 e2 S1 x1 q1 (en.ext x1) (p.later x1)
  · subst e2
    exact ha c k env h _ h' e1 r σ H Q S en p
theorem s1T {β : Type} {t : T} (ha : ST cl t) (k : RCok c cl) {f : Bool → Hm → Res β} {res : Except String β} (e : bnd (evT c.P cl t env h) f = some (res, h')) (S : Sim c.K r h H) (en : EnvR c.K r h.next H σ env)
    {B : Type} {R : Rho → Nat → Hp → B → β → Prop} {Q0 : B → Hp → Prop} (p : PG c.K (c.wt σ) r h H R Q0 res h') {Q : Bool → Hp → Prop}
    (w : ∀ x h1 r1 H1, f x h1 = some (res, h') → Sim c.K r1 h1 H1 → Ext c.K r h.next H r1 h1.next H1 → EnvR c.K r1 h1.next H1 σ env → PG c.K (c.wt σ) r1 h1 H1 R Q0 res h' → Q x H1) : rdT c t σ H Q := by
  rcases bnd_cases e with ⟨x, h1, e1, e2⟩ | ⟨kk, e1, e2⟩
  · refine ha c k env h _ h1 e1 r σ H Q S en fun v r1 H1 S1 x1 q1 => ?_
    subst q1
    exact w v h1 r1 H1 e2 S1 x1 (en.ext x1) (p.later x1)
  · subst e2
    exact ha c k env h _ h' e1 r σ H Q S en p
theorem s1O {β : Type} {t : Eo} (ha : SO cl t) (k : RCok c cl) {f : Option Int → Hm → Res β} {res : Except String β} (e : bnd (evO c.P cl t env h) f = some (res, h')) (S : Sim c.K r h H) (en : EnvR c.K r h.next H σ env)
    {B : Type} {R : Rho → Nat → Hp → B → β → Prop} {Q0 : B → Hp → Prop} (p : PG c.K (c.wt σ) r h H R Q0 res h') {Q : Option Int → Hp → Prop}
    (w : ∀ x h1 r1 H1, f x h1 = some (res, h') → Sim c.K r1 h1 H1 → Ext c.K r h.next H r1 h1.next H1 → EnvR c.K r1 h1.next H1 σ env → PG c.K (c.wt σ) r1 h1 H1 R Q0 res h' → Q x H1) : rdO c t σ H Q := by
  rcases bnd_cases e with ⟨x, h1, e1, e2⟩ | ⟨kk, e1, e2⟩
  · refine ha c k env h _ h1 e1 r σ H Q S en fun v r1 H1 S1 x1 q1 => ?_
    subst q1
    exact w v h1 r1 H1 e2 S1 x1 (en.ext x1) (p.later x1)
  · subst e2
    exact ha c k env h _ h' e1 r σ H Q S en p
theorem s1A {β : Type} {t : Es} (ha : SA cl t) (k : RCok c cl) {f : List D → Hm → Res β} {res : Except String β} (e : bnd (evs c.P cl t env h) f = some (res, h')) (S : Sim c.K r h H) (en : EnvR c.K r h.next H σ env)
    {B : Type} {R : Rho → Nat → Hp → B → β → Prop} {Q0 : B → Hp → Prop} (p : PG c.K (c.wt σ) r h H R Q0 res h') {Q : List V → Hp → Prop}
    (w : ∀ x h1 v r1 H1, f x h1 = some (res, h') → Sim c.K r1 h1 H1 → Ext c.K r h.next H r1 h1.next H1 → RepL c.K r1 h1.next H1 v x → EnvR c.K r1 h1.next H1 σ env → PG c.K (c.wt σ) r1 h1 H1 R Q0 res h' → Q v H1) : rdA c t σ H Q := by
  rcases bnd_cases e with ⟨x, h1, e1, e2⟩ | ⟨kk, e1, e2⟩
  · exact ha c k env h _ h1 e1 r σ H Q S en fun v r1 H1 S1 x1 q1 => w x h1 v r1 H1 e2 S1 x1 q1 (en.ext x1) (p.later x1)
  · subst e2
    exact ha c k env h _ h' e1 r σ H Q S en p
theorem repCst (K : PySem.W.Frag) (r : Rho) (n : Nat) (H : Hp) (k : Cst) : RepV K r n H (cV k) k.d := by
  cases k with
  | non => exact .non
  | bl b => exact .bl b
  | int i => exact .int i
  | str s => exact .str _
theorem repCsts (K : PySem.W.Frag) (r : Rho) (n : Nat) (H : Hp) : ∀ ds : List Cst, RepL K r n H (ds.map cV) (ds.map Cst.d)
  | [] => .nil
  | k :: ks => .cons (repCst K r n H k) (repCsts K r n H ks)

theorem dgetT_of {K : PySem.W.Frag} {r : Rho} {h : Hm} {H : Hp} (S : Sim K r h H) {a : Nat} {o : Option D} {us : List V} {ks : List D} (q : RepL K r h.next H us ks) (e : dgetT h a ks = some o) {b : Addr} (hb : H b = some (.tup us)) :
    ∃ u, DGet H (r a) (.ref b) u ∧ (∀ d, o = some d → ∃ z, u = some z ∧ RepV K r h.next H z d) ∧ (o = none → u = none) := by
  unfold dgetT at e
  split at e
  · rename_i kvs ha
    obtain ⟨k, e1, e2⟩ := Option.map_eq_some_iff.mp e
    obtain ⟨ws, h1, q1⟩ := (S.obj a _ ha).2
    obtain ⟨g1, g2⟩ := repK_get k q1
    rw [keys_of q e1] at hb
    refine ⟨_, DGet.t h1 hb, fun d z => ?_, fun z => ?_⟩
    · rw [z] at e2
      exact g1 d e2
    · rw [z] at e2
      exact g2 e2
  · rename_i kvs ha
    obtain ⟨k, e1, e2⟩ := Option.map_eq_some_iff.mp e
    obtain ⟨ob, ws, h1, q1⟩ := (S.obj a _ ha).2
    obtain ⟨g1, g2⟩ := repK_get k q1
    rw [keys_of q e1] at hb
    refine ⟨_, Or.inr ⟨ws, k, b, .inr ⟨ob, h1⟩, rfl, hb, rfl⟩, fun d z => ?_, fun z => ?_⟩
    · rw [z] at e2
      exact g1 d e2
    · rw [z] at e2
      exact g2 e2
  · cases e
theorem isD_of {K : PySem.W.Frag} {r : Rho} {h : Hm} {H : Hp} (S : Sim K r h H) {a : Nat} {ks : List D} {o : Option D} (e : dgetT h a ks = some o) : IsD H (r a) := by
  unfold dgetT at e
  split at e
  · rename_i kvs ha
    obtain ⟨ws, h1, _⟩ := (S.obj a _ ha).2
    exact .inr ⟨ws, .inl h1⟩
  · rename_i kvs ha
    obtain ⟨ob, ws, h1, _⟩ := (S.obj a _ ha).2
    exact .inr ⟨ws, .inr ⟨ob, h1⟩⟩
  · cases e

theorem pair_rep {K : PySem.W.Frag} {r : Rho} {n : Nat} {H : Hp} : ∀ (us : List V) (vs : List D) (kvs : List (L2.Key × D)), RepL K r n H us vs → pairUp vs = some kvs → ∃ ks : List (Key × V), pairL us = ks.map (fun kv => (kV kv.1, kv.2)) ∧ RepK K r n H ks kvs
  | _, _, kvs, .nil, e => by cases e; exact ⟨[], rfl, rfl, .nil⟩
  | _, _, kvs, .cons a .nil, e => by cases e
  | _, _, kvs, .cons (v := v1) (d := d1) a (.cons (v := v2) (d := d2) b t), e => by
    simp only [pairUp] at e
    split at e
    · rename_i q ps h1 h2
      cases e
      obtain ⟨ks, e1, e2⟩ := pair_rep _ _ ps t h2
      have ek : v1 = kV q := by
        unfold key? at h1
        split at h1
        · cases h1; cases a; rfl
        · cases h1; cases a; rfl
        · cases h1
      refine ⟨(q, v2) :: ks, by rw [ek, List.map_cons, ← e1]; rfl, by rw [List.map_cons, List.map_cons, e2.1], .cons b e2.2⟩
    · cases e
theorem rep_merge {K : PySem.W.Frag} {r : Rho} {n : Nat} {H : Hp} : ∀ (ks : List (Key × V)) (kvs : List (Key × D)) (ws : List (Key × V)) (ds : List (Key × D)), RepK K r n H ks kvs → RepK K r n H ws ds → RepK K r n H (mergeK ws ks) (kmerge ds kvs)
  | [], [], ws, ds, _, q => q
  | [], _ :: _, _, _, q, _ => by cases q.1
  | _ :: _, [], _, _, q, _ => by cases q.1
  | (k1, v1) :: ks, (k2, d2) :: kvs, ws, ds, q, q0 => by
    obtain ⟨q1, q2⟩ := q
    rw [List.map_cons, List.map_cons] at q1 q2
    injection q1 with q3 q4
    cases q2 with
    | cons a t =>
      have : k1 = k2 := q3
      subst this
      exact rep_merge ks kvs _ _ ⟨q4, t⟩ (repK_put k1 a q0)
theorem bnd_pair {P : Prog} {cl : Cl} {a b : E} {es : Es} {env : Env} {h : Hm} {f : List D → Hm → Res D} : bnd (evs P cl (.cons a (.cons b es)) env h) f = bnd (ev P cl a env h) fun x h1 => bnd (ev P cl b env h1) fun y h2 => bnd (evs P cl es env h2) fun zs h3 => f (x :: y :: zs) h3 := by
  simp only [evs]
  cases e1 : ev P cl a env h with
  | none => rfl
  | some p =>
    obtain ⟨o, h1⟩ := p
    cases o with
    | error k => rfl
    | ok x =>
      simp only [bnd_ok]
      cases e2 : ev P cl b env h1 with
      | none => rfl
      | some p2 =>
        obtain ⟨o2, h2⟩ := p2
        cases o2 with
        | error k => rfl
        | ok y =>
          simp only [bnd_ok]
          cases e3 : evs P cl es env h2 with
          | none => rfl
          | some p3 =>
            obtain ⟨o3, h3⟩ := p3
            cases o3 with
            | error k => rfl
            | ok zs => rfl
/-- a comprehension's turns -/
theorem s_comp {elt : E} {tst : T} {g : Tg} {gd : List (Nat × O)} {own : List Nat} {items : List D} {a0 : Nat} (hE : SE cl elt) (hT : ST cl tst) (k : RCok c cl) {J : It} {r1 : Rho} {n1 : Nat} {H1 : Hp} (G : Gives c.K J items gd r1 n1 H1)
    (hg : ∀ i ∈ g.is, i ∈ own) {r0 : Rho} {h0 : Hm} {H0 : Hp} (S0 : Sim c.K r0 h0 H0) (x0 : Ext c.K r1 n1 H1 r0 h0.next H0) (la : a0 < h0.next) (en : EnvR c.K r0 h0.next H0 σ env) {res : Except String D} {Q : VK} {W : XK}
    (e : compL (fun e1 h2 => ev c.P cl elt e1 h2) (fun e1 h2 => evT c.P cl tst e1 h2) g gd a0 (wipeE env own) items h0 = some (res, h')) (p : PG c.K W r0 h0 H0 (RepV c.K) Q res h') :
    ∃ W : Nat → Nat → Hp → Prop, (∃ m, W 0 m H0) ∧ ∀ i m H, W i m H → (J.stop i H ∧ Q (.ref (r0 a0)) H) ∨ (J.go i H ∧ ∃ Nx : Hp → Prop, (∀ H', Nx H' → ∃ m', m' < m ∧ W (i + 1) m' H') ∧
      ∀ x H', J.yld i H x H' → rdG c.K g x (wipe σ own) H' fun σ2 H2 => wipe σ2 own = wipe σ own ∧ rdT (c.with noW) tst σ2 H2 fun b H3 =>
        if b = true then rdE (c.with noW) elt σ2 H3 fun y H4 => ∃ acc, H4 (r0 a0) = some (.lst acc) ∧ acc.length < sizeLine ∧ Nx (upd H4 (r0 a0) (.lst (acc ++ [y]))) else Nx H3) := by
  refine ⟨fun i m H => m = items.length - i ∧ i ≤ items.length ∧ ∃ r h, Sim c.K r h H ∧ Ext c.K r0 h0.next H0 r h.next H ∧
    compL (fun e1 h2 => ev c.P cl elt e1 h2) (fun e1 h2 => evT c.P cl tst e1 h2) g gd a0 (wipeE env own) (items.drop i) h = some (res, h'), ⟨_, rfl, Nat.zero_le _, r0, h0, S0, Ext.refl, e⟩, ?_⟩
  rintro i m H ⟨rfl, hi, r, h, S, x, e⟩
  have k' : RCok (c.with noW) cl := k.with noW
  cases hd : items[i]? with
  | none =>
    have hl : items.length ≤ i := List.getElem?_eq_none_iff.mp hd
    rw [List.drop_of_length_le hl] at e
    unfold compL at e
    split at e
    · rename_i st
      cases e
      refine .inl ⟨((G r _ H S (x0.trans x) st i).2 hl), ?_⟩
      rw [← x.at_ a0 la]
      exact p _ r H S x (.ref (Nat.lt_of_lt_of_le la x.le))
    · cases e
  | some d =>
    have hil : i < items.length := (List.getElem?_eq_some_iff.mp hd).1
    have ed : items.drop i = d :: items.drop (i + 1) := by
      rw [List.drop_eq_getElem_cons hil]
      congr 1
      rw [List.getElem?_eq_getElem hil] at hd
      exact Option.some.inj hd
    rw [ed] at e
    unfold compL at e
    split at e
    · rename_i st
      obtain ⟨g1, g2⟩ := (G r h H S (x0.trans x) st i).1 d hd
      refine .inr ⟨g1, fun H' => ∃ r h, Sim c.K r h H' ∧ Ext c.K r0 h0.next H0 r h.next H' ∧
        compL (fun e1 h2 => ev c.P cl elt e1 h2) (fun e1 h2 => evT c.P cl tst e1 h2) g gd a0 (wipeE env own) (items.drop (i + 1)) h = some (res, h'), ?_, ?_⟩
      · rintro H' ⟨r2, h2, S2, x2, e2⟩
        exact ⟨_, by omega, rfl, hil, r2, h2, S2, x2, e2⟩
      · intro y H' yl
        obtain ⟨S', x', q'⟩ := g2 y H' yl
        split at e
        · cases e
        · rename_i env1 he1
          have en' : EnvR c.K r h.next H' (wipe σ own) (wipeE env own) := ((en.ext x).ext x').wipe own
          refine s_g q' en' he1 fun σ2 en2 ap => ⟨(ap own hg).trans wipe_wipe, ?_⟩
          obtain ⟨b, h2, e1, e2⟩ := bndN_cases e
          refine hT (c.with noW) k' env1 h _ h2 e1 r σ2 H' _ S' en2 ?_
          intro b' r2 H2 S2 x2 eb
          subst eb
          split at e2
          · rename_i hb
            subst hb
            rw [if_pos rfl]
            obtain ⟨z, h3, e3, e4⟩ := bndN_cases e2
            refine hE (c.with noW) k' env1 h2 _ h3 e3 r2 σ2 H2 _ S2 (en2.ext x2) ?_
            intro v r3 H3 S3 x3 q3
            split at e4
            · rename_i acc ha
              split at e4
              · rename_i hl
                obtain ⟨vs, h1, q4⟩ := (S3.obj a0 _ ha).2
                have xx := ((x.trans x').trans x2).trans x3
                have er : r3 a0 = r0 a0 := xx.at_ a0 la
                rw [er] at h1
                refine ⟨vs, h1, by rw [q4.len]; exact lim_lt hl, r3, _, ?_, ?_, e4⟩
                · rw [← er]
                  exact S3.put ha rfl rfl ⟨_, upd_same, (q4.ext (S3.free ha rfl).ext).append1 (q3.ext (S3.free ha rfl).ext)⟩
                · refine xx.trans ?_
                  rw [← er]
                  exact (S3.free ha rfl).ext
              · cases e4
            · cases e4
          · rename_i hb
            rw [if_neg hb]
            exact ⟨r2, h2, S2, (x.trans x').trans x2, e2⟩
    · cases e
end

mutual
theorem sP (cl : Cl) : ∀ es : Es, es.len % 2 = 0 → ∀ (c : RC), RCok c cl → ∀ (env : Env) (h : Hm) (res : Except String D) (h' : Hm) {f : List D → Hm → Res D}, bnd (evs c.P cl es env h) f = some (res, h') → ∀ (r : Rho) (σ : L2.St) (H : Hp) (Q0 : VK), Sim c.K r h H → EnvR c.K r h.next H σ env → PG c.K (c.wt σ) r h H (RepV c.K) Q0 res h' →
    ∀ (Qp : List (V × V) → Hp → Prop), (∀ vs h1 us r1 H1, f vs h1 = some (res, h') → Sim c.K r1 h1 H1 → Ext c.K r h.next H r1 h1.next H1 → RepL c.K r1 h1.next H1 us vs → PG c.K (c.wt σ) r1 h1 H1 (RepV c.K) Q0 res h' → Qp (pairL us) H1) → tPairs (pairT (rdL c es)) σ H Qp
  | .nil => by
    intro _ c k env h res h' f e r σ H Q0 S en p Qp w
    have e : f [] h = some (res, h') := by simpa only [evs, ok, bnd_ok] using e
    exact w [] h [] r H e S Ext.refl .nil p
  | .cons a .nil => by intro hl; cases hl
  | .cons a (.cons b es) => by
    intro hl c k env h res h' f e r σ H Q0 S en p Qp w
    have hl' : es.len % 2 = 0 := by
      have hl : (es.len + 1 + 1) % 2 = 0 := hl
      omega
    rw [bnd_pair] at e
    show rdE c a σ H fun x H1 => rdE c b σ H1 fun y H2 => tPairs (pairT (rdL c es)) σ H2 fun ps H3 => Qp ((x, y) :: ps) H3
    refine s1 (sE cl a) k e S en p fun x h1 v r1 H1 e1 S1 x1 q1 en1 p1 => s1 (sE cl b) k e1 S1 en1 p1 fun y h2 u r2 H2 e2 S2 x2 q2 en2 p2 => ?_
    refine sP cl es hl' c k env h2 res h' e2 r2 σ H2 Q0 S2 en2 p2 _ fun vs h3 us r3 H3 e3 S3 x3 q3 p3 => ?_
    exact w (x :: y :: vs) h3 (v :: u :: us) r3 H3 e3 S3 ((x1.trans x2).trans x3) (.cons ((q1.ext x2).ext x3) (.cons (q2.ext x3) q3)) p3
theorem sE (cl : Cl) : ∀ e : E, SE cl e
  | .var i => by
    intro c k env h res h' e r σ H Q S en p
    simp only [ev] at e
    split at e
    · rename_i d hd
      cases e
      obtain ⟨v, e1, q⟩ := en.at_ i d hd
      exact ⟨v, e1, s_plain S q p⟩
    · cases e
  | .con kk => by
    intro c k env h res h' e r σ H Q S en p
    simp only [ev] at e
    cases e
    exact s_plain S (repCst _ _ _ _ kk) p
  | .glo x => by
    intro c k env h res h' e r σ H Q S en p
    simp only [ev] at e
    obtain ⟨d, e1, e2, e3⟩ := liftO_cases e
    subst e2 e3
    exact s_plain S (k.gv x d e1 _ _ _) p
  | .bin o a b => by
    intro c k env h res h' e r σ H Q S en p
    simp only [ev] at e
    exact s1 (sE cl a) k e S en p fun x h1 v r1 H1 e1 S1 x1 q1 en1 p1 => s1 (sE cl b) k e1 S1 en1 p1 fun y h2 w r2 H2 e2 S2 x2 q2 en2 p2 => s_bin S2 (q1.ext x2) q2 e2 p2
  | .neg a => by
    intro c k env h res h' e r σ H Q S en p
    simp only [ev] at e
    refine s1 (sE cl a) k e S en p fun x h1 v r1 H1 e1 S1 x1 q1 en1 p1 => ?_
    cases q1 with
    | int i => cases e1; exact ⟨i, rfl, s_plain S1 (.int _) p1⟩
    | _ => cases e1
  | .cmp o a b => by
    intro c k env h res h' e r σ H Q S en p
    simp only [ev] at e
    refine s1 (sE cl a) k e S en p fun x h1 v r1 H1 e1 S1 x1 q1 en1 p1 => s1 (sE cl b) k e1 S1 en1 p1 fun y h2 w r2 H2 e2 S2 x2 q2 en2 p2 => ?_
    obtain ⟨d, e3, e4, e5⟩ := liftO_cases e2
    obtain ⟨bb, e6, e7⟩ := Option.map_eq_some_iff.mp e3
    subst e4 e5 e7
    exact s_cmp S2 (q1.ext x2) q2 e6 (s_plain S2 (.bl _) p2)
  | .chn o o' a b d => by
    intro c k env h res h' e r σ H Q S en p
    simp only [ev] at e
    refine s1 (sE cl a) k e S en p fun x h1 v r1 H1 e1 S1 x1 q1 en1 p1 => s1 (sE cl b) k e1 S1 en1 p1 fun y h2 w r2 H2 e2 S2 x2 q2 en2 p2 => ?_
    split at e2
    · rename_i hc
      refine s_cmp S2 (q1.ext x2) q2 hc ⟨true, rfl, ?_⟩
      rw [if_pos rfl]
      refine s1 (sE cl d) k e2 S2 en2 p2 fun z h3 u r3 H3 e3 S3 x3 q3 en3 p3 => ?_
      obtain ⟨d, e4, e5, e6⟩ := liftO_cases e3
      obtain ⟨bb, e7, e8⟩ := Option.map_eq_some_iff.mp e4
      subst e5 e6 e8
      exact s_cmp S3 (q2.ext x3) q3 e7 (s_plain S3 (.bl _) p3)
    · rename_i hc
      cases e2
      refine s_cmp S2 (q1.ext x2) q2 hc ⟨false, rfl, ?_⟩
      rw [if_neg Bool.false_ne_true]
      exact s_plain S2 (.bl _) p2
    · cases e2
  | .and a b => by
    intro c k env h res h' e r σ H Q S en p
    simp only [ev] at e
    refine s1 (sE cl a) k e S en p fun x h1 v r1 H1 e1 S1 x1 q1 en1 p1 => ?_
    cases q1 with
    | bl bb =>
      refine ⟨bb, rfl, ?_⟩
      cases bb with
      | true => rw [if_pos rfl]; exact sE cl b c k env h1 _ h' e1 r1 σ H1 Q S1 en1 p1
      | false =>
        rw [if_neg Bool.false_ne_true]
        cases e1
        exact s_plain S1 (.bl _) p1
    | _ => cases e1
  | .or a b => by
    intro c k env h res h' e r σ H Q S en p
    simp only [ev] at e
    refine s1 (sE cl a) k e S en p fun x h1 v r1 H1 e1 S1 x1 q1 en1 p1 => ?_
    cases q1 with
    | bl bb =>
      refine ⟨bb, rfl, ?_⟩
      cases bb with
      | true =>
        rw [if_pos rfl]
        cases e1
        exact s_plain S1 (.bl _) p1
      | false => rw [if_neg Bool.false_ne_true]; exact sE cl b c k env h1 _ h' e1 r1 σ H1 Q S1 en1 p1
    | _ => cases e1
  | .not a => by
    intro c k env h res h' e r σ H Q S en p
    simp only [ev] at e
    refine s1 (sE cl a) k e S en p fun x h1 v r1 H1 e1 S1 x1 q1 en1 p1 => ?_
    cases q1 with
    | bl bb => cases e1; exact ⟨bb, rfl, s_plain S1 (.bl _) p1⟩
    | _ => cases e1
  | .ife t a b => by
    intro c k env h res h' e r σ H Q S en p
    simp only [ev] at e
    refine s1T (sT cl t) k e S en p fun x h1 r1 H1 e1 S1 x1 en1 p1 => ?_
    cases x with
    | true => rw [if_pos rfl] at e1 ⊢; exact sE cl a c k env h1 _ h' e1 r1 σ H1 Q S1 en1 p1
    | false => rw [if_neg Bool.false_ne_true] at e1 ⊢; exact sE cl b c k env h1 _ h' e1 r1 σ H1 Q S1 en1 p1
  | .idx a b => by
    intro c k env h res h' e r σ H Q S en p
    simp only [ev] at e
    refine s1 (sE cl a) k e S en p fun x h1 v r1 H1 e1 S1 x1 q1 en1 p1 => s1 (sE cl b) k e1 S1 en1 p1 fun y h2 w r2 H2 e2 S2 x2 q2 en2 p2 => ?_
    obtain ⟨d, e3, e4, e5⟩ := liftO_cases e2
    subst e4 e5
    exact s_idx S2 (q1.ext x2) q2 e3 p2
  | .dgt a b => by
    intro c k env h res h' e r σ H Q S en p
    simp only [ev] at e
    refine s1 (sE cl a) k e S en p fun x h1 v r1 H1 e1 S1 x1 q1 en1 p1 => s1 (sE cl b) k e1 S1 en1 p1 fun y h2 w r2 H2 e2 S2 x2 q2 en2 p2 => ?_
    have q1' := q1.ext x2
    cases q1' with
    | @ref a la =>
      simp only at e2
      split at e2
      · rename_i d hd
        cases e2
        obtain ⟨u, g, g1, _⟩ := dget_of S2 q2 hd
        obtain ⟨z, ez, qz⟩ := g1 _ rfl
        subst ez
        exact ⟨_, z, rfl, g, s_plain S2 qz p2⟩
      · cases e2
    | _ => cases e2
  | .slc a lo hi => by
    intro c k env h res h' e r σ H Q S en p
    simp only [ev] at e
    exact s1 (sE cl a) k e S en p fun x h1 v r1 H1 e1 S1 x1 q1 en1 p1 => s1O (sO cl lo) k e1 S1 en1 p1 fun l h2 r2 H2 e2 S2 x2 en2 p2 =>
      s1O (sO cl hi) k e2 S2 en2 p2 fun u h3 r3 H3 e3 S3 x3 en3 p3 => s_slc S3 (q1.ext (x2.trans x3)) e3 p3
  | .att a f => by
    intro c k env h res h' e r σ H Q S en p
    simp only [ev] at e
    refine s1 (sE cl a) k e S en p fun x h1 v r1 H1 e1 S1 x1 q1 en1 p1 => ?_
    cases q1 with
    | @ref a la =>
      simp only at e1
      split at e1
      · rename_i cn fs ha
        split at e1
        · rename_i hf
          obtain ⟨d, e3, e4, e5⟩ := liftO_cases e1
          subst e4 e5
          obtain ⟨dx, ws, h1, q2⟩ := (S1.obj a _ ha).2
          obtain ⟨u, e6, q3⟩ := repF_get q2 e3
          obtain ⟨c1, c2⟩ := k.fld cn f hf
          exact ⟨_, _, dx, ws, u, rfl, h1, c1, c2, e6, s_plain S1 q3 p1⟩
        · cases e1
      · cases e1
    | _ => cases e1
  | .tup es => by
    intro c k env h res h' e r σ H Q S en p
    simp only [ev] at e
    refine s1A (sA cl es) k e S en p fun x h1 v r1 H1 e1 S1 x1 q1 en1 p1 => ?_
    split at e1
    · rename_i hl
      cases e1
      exact ⟨by rw [q1.len]; exact lim_le hl, s_newtup S1 q1 p1⟩
    · cases e1
  | .lst es => by
    intro c k env h res h' e r σ H Q S en p
    simp only [ev] at e
    refine s1A (sA cl es) k e S en p fun x h1 v r1 H1 e1 S1 x1 q1 en1 p1 => ?_
    split at e1
    · rename_i hl
      cases e1
      exact ⟨by rw [q1.len]; exact lim_le hl, s_newlist S1 q1 p1⟩
    · cases e1
  | .dict .nil => by
    intro c k env h res h' e r σ H Q S en p
    simp only [ev] at e
    cases e
    exact s_newdict S (ws := []) (kvs := []) ⟨rfl, .nil⟩ p
  | .dict (.cons a b) => by
    intro c k env h res h' e r σ H Q S en p
    simp only [ev] at e
    split at e
    · rename_i hl
      show tDisp (pairT (rdL c (.cons a b))) σ H Q
      intro p0 hp0
      have x1 := (Free.extN (K := c.K) (r := r) (n := h.next) (u := .dK []) (.inl hp0))
      have S1 : Sim c.K (rn r h.next p0) (h.new (.dic [])) (upd H p0 (.dK [])) := S.new hp0 rfl ⟨[], upd_same, ⟨rfl, .nil⟩⟩
      refine sP cl (.cons a b) hl c k env (h.new (.dic [])) res h' e (rn r h.next p0) σ _ Q S1 (en.ext x1) (p.later x1) _ ?_
      intro vs h1 us r2 H2 e2 S2 x2 q2 p2
      unfold dispO at e2
      split at e2
      · rename_i kvs hg hk
        split at e2
        · rename_i h15
          cases e2
          obtain ⟨ws, g1, g2⟩ := (S2.obj h.next _ hg).2
          have w0 : ws = [] := by
            have := g2.1
            rw [List.map_nil] at this
            exact List.map_eq_nil_iff.mp this
          subst w0
          have er : r2 h.next = p0 := by rw [x2.at_ h.next (Nat.lt_succ_self _), rn_at]
          rw [er] at g1
          obtain ⟨ks, e3, q3⟩ := pair_rep us vs kvs q2 hk
          refine ⟨g1, ks, e3, by rw [show ks.length = kvs.length from by have := congrArg List.length q3.1; simpa using this]; exact h15, ?_⟩
          have S3 : Sim c.K r2 (h1.put h.next (.dic (kmerge [] kvs))) (upd H2 p0 (.dK (mergeK [] ks))) := by
            rw [← er]
            exact S2.put hg rfl rfl ⟨_, upd_same, RepK.ext (S2.free hg rfl).ext (rep_merge ks kvs [] [] q3 ⟨rfl, .nil⟩)⟩
          have x3 : Ext c.K r2 h1.next H2 r2 h1.next (upd H2 p0 (.dK (mergeK [] ks))) := by rw [← er]; exact (S2.free hg rfl).ext
          exact p2 (.ref p0) r2 _ S3 x3 (by rw [← er]; exact .ref x2.le)
        · cases e2
      · cases e2
    · cases e
  | .call f es ds => by
    intro c k env h res h' e r σ H Q S en p
    simp only [ev] at e
    exact s1A (sA cl es) k e S en p fun x h1 v r1 H1 e1 S1 x1 q1 en1 p1 => k.sp f _ h1 res h' e1 r1 H1 _ Q _ S1 (q1.app (repCsts _ _ _ _ ds)) p1
  | .meth o m es ds => by
    intro c k env h res h' e r σ H Q S en p
    simp only [ev] at e
    refine s1 (sE cl o) k e S en p fun x h1 v r1 H1 e1 S1 x1 q1 en1 p1 => ?_
    cases q1 with
    | @ref a la =>
      simp only at e1
      split at e1
      · rename_i cn fs ha
        split at e1
        · rename_i f hm hl
          obtain ⟨dx, ws, h1, q2⟩ := (S1.obj a _ ha).2
          refine ⟨_, dx, ws, cn, f, rfl, h1, hm, repF_none q2 hl, ?_⟩
          refine s1A (sA cl es) k e1 S1 en1 p1 fun vs h2 us r2 H2 e2 S2 x2 q3 en2 p2 => ?_
          exact k.sp f _ h2 res h' e2 r2 H2 _ Q _ S2 (.cons (RepV.ext x2 (.ref la)) (q3.app (repCsts _ _ _ _ ds))) p2
        · cases e1
      · cases e1
    | _ => cases e1
  | .new cn es => by
    intro c k env h res h' e r σ H Q S en p
    simp only [ev] at e
    refine s1A (sA cl es) k e S en p fun ds h1 vs r1 H1 e1 S1 x1 q1 en1 p1 => ?_
    intro x dx nx ndx ne
    split at e1
    · rename_i f hm
      refine ⟨f, hm, ?_⟩
      have nx' : upd H1 dx (.own x) x = none := by rw [upd_ne ne.symm]; exact nx
      have xa := (Free.ext (K := c.K) (r := r1) (n := h1.next) (u := .own x) (.inl ndx))
      have xb := (Free.extN (K := c.K) (r := r1) (n := h1.next) (u := .ins (ca c.K cn) dx []) (.inl nx'))
      have S2 : Sim c.K (rn r1 h1.next x) (h1.new (.ins cn [])) (upd (upd H1 dx (.own x)) x (.ins (ca c.K cn) dx [])) := (S1.grow ndx).new nx' rfl ⟨dx, [], upd_same, rfl, .nil⟩
      have xx := xa.trans xb
      have ev0 : V.ref x = .ref (rn r1 h1.next x h1.next) := by rw [rn_at]
      rcases bnd_cases e1 with ⟨d, h2, e2, e3⟩ | ⟨kk, e2, e3⟩
      · refine k.sp f _ _ _ h2 e2 _ _ _ _ _ S2 (.cons (by rw [ev0]; exact .ref (Nat.lt_succ_self _)) (q1.ext xx)) ?_
        intro v r3 H3 S3 x3 q3
        cases q3 with
        | non =>
          cases e3
          refine ⟨rfl, p1 (.ref x) r3 H3 S3 (xx.trans x3) ?_⟩
          rw [ev0, ← x3.at_ h1.next (Nat.lt_succ_self _)]
          exact .ref (Nat.lt_of_lt_of_le (Nat.lt_succ_self _) x3.le)
        | _ => cases e3
      · subst e3
        refine k.sp f _ _ _ h' e2 _ _ _ _ _ S2 (.cons (by rw [ev0]; exact .ref (Nat.lt_succ_self _)) (q1.ext xx)) ?_
        exact fun r3 H3 S3 x3 => p1 r3 H3 S3 (xx.trans x3)
    · cases e1
  | .bi b es => by
    intro c k env h res h' e r σ H Q S en p
    simp only [ev] at e
    exact s1A (sA cl es) k e S en p fun x h1 v r1 H1 e1 S1 x1 q1 en1 p1 => s_bi S1 q1 e1 p1
  | .bm b o es => by
    intro c k env h res h' e r σ H Q S en p
    simp only [ev] at e
    refine s1 (sE cl o) k e S en p fun x h1 v r1 H1 e1 S1 x1 q1 en1 p1 => ?_
    split at e1
    · rename_i hr
      exact ⟨s_rcv S1 q1 hr, s1A (sA cl es) k e1 S1 en1 p1 fun vs h2 us r2 H2 e2 S2 x2 q2 en2 p2 => s_bm S2 (q1.ext x2) q2 e2 p2⟩
    · cases e1
  | .gix x a => by
    intro c k env h res h' e r σ H Q S en p
    simp only [ev] at e
    split at e
    · rename_i xs hx
      refine ⟨k.gt x xs hx H, ?_⟩
      refine s1 (sE cl a) k e S en p fun y h1 v r1 H1 e1 S1 x1 q1 en1 p1 => ?_
      unfold gixD at e1
      split at e1
      · rename_i ys z ey
        cases ey
        split at e1
        · rename_i zs hz
          split at e1
          · rename_i j hj
            cases e1
            cases q1
            have qg := k.gv x _ hx r1 h'.next H1
            generalize hgv : c.gv x = gvx at qg
            cases qg with
            | @tup pp vs ds hT q2 =>
              rw [q2.strs hz] at hT
              obtain ⟨f1, f2, f3⟩ := List.findIdx?_eq_some_iff_getElem.mp hj
              refine ⟨pp, zs, z, j, rfl, rfl, hT, ?_, fun m hm => ?_, s_plain S1 (.int _) p1⟩
              · rw [List.getElem?_eq_getElem f1]
                exact congrArg some (of_decide_eq_true f2)
              · intro hh
                have hml : m < zs.length := by omega
                have := f3 m hm
                rw [List.getElem?_eq_getElem hml] at hh
                simp only [Option.some.injEq] at hh
                simp [hh] at this
          · cases e1
        · cases e1
      · cases e1
    · cases e
  | .isi a t => by
    intro c k env h res h' e r σ H Q S en p
    simp only [ev] at e
    refine s1 (sE cl a) k e S en p fun x h1 v r1 H1 e1 S1 x1 q1 en1 p1 => ?_
    obtain ⟨d, e3, e4, e5⟩ := liftO_cases e1
    obtain ⟨n, e6, e7⟩ := Option.map_eq_some_iff.mp e3
    subst e4 e5 e7
    obtain ⟨t1, t2⟩ := ty_of S1 q1 e6
    exact ⟨v, .ty t.nm, _, .type t.nm, isTn n t, rfl, .ty _, t1, kit_ty (kitAll n t.nm t2 (nm_mem t)), s_plain S1 (.bl _) p1⟩
  | .isi2 a t u => by
    intro c k env h res h' e r σ H Q S en p
    simp only [ev] at e
    refine s1 (sE cl a) k e S en p fun x h1 v r1 H1 e1 S1 x1 q1 en1 p1 => ?_
    obtain ⟨d, e3, e4, e5⟩ := liftO_cases e1
    obtain ⟨n, e6, e7⟩ := Option.map_eq_some_iff.mp e3
    subst e4 e5 e7
    refine ⟨by show 2 ≤ sizeLine; rw [sizeLine_eq]; decide, fun q nq => ?_⟩
    have xq := (Free.ext (K := c.K) (r := r1) (n := h'.next) (u := .tup [.ty t.nm, .ty u.nm]) (.inl nq))
    have S2 := S1.grow (u := .tup [.ty t.nm, .ty u.nm]) nq
    obtain ⟨t1, t2⟩ := ty_of S2 (q1.ext xq) e6
    show rIsiT c.K [v, .ref q] _ Q
    refine ⟨v, q, _, _, [.type t.nm, .type u.nm], isTn n t || isTn n u, rfl, upd_same, .cons (.ty _) (.cons (.ty _) .nil), t1, ?_, p1 _ r1 _ S2 xq (.bl _)⟩
    refine kitAny_cons (kit_ty (kitAll n t.nm t2 (nm_mem t))) (fun h1 => kitAny_cons (kit_ty (kitAll n u.nm t2 (nm_mem u))) (fun h2 => ?_) fun h2 => ?_) fun h1 => ?_
    · rw [kitAny_nil]
      unfold isTn
      rw [h1, h2]
      rfl
    · unfold isTn
      rw [h1, h2]
      rfl
    · unfold isTn
      rw [h1]
      rfl
  | .comp elt own g kk es tst => by
    intro c k env h res h' e r σ H Q S en p
    simp only [ev] at e
    refine s1A (sA cl es) k e S en p fun ds h1 vs r1 H1 e1 S1 x1 q1 en1 p1 => ?_
    split at e1
    · rename_i items gd hw
      split at e1
      · rename_i hg
        refine s_walk S1 q1 hw fun J G => ?_
        intro a ha
        have xn := (Free.extN (K := c.K) (r := r1) (n := h1.next) (u := .lst []) (.inl ha))
        have S2 : Sim c.K (rn r1 h1.next a) (h1.new (.lst [])) (upd H1 a (.lst [])) := S1.new ha rfl ⟨[], upd_same, .nil⟩
        have hg2 : ∀ i ∈ g.is, i ∈ own := by
          cases g with
          | name i =>
            intro j hj
            cases List.mem_singleton.mp hj
            exact List.contains_iff_mem.mp hg
          | tup is => exact fun j hj => List.contains_iff_mem.mp (List.all_eq_true.mp hg j hj)
        have key := s_comp (sE cl elt) (sT cl tst) k G hg2 S2 xn (Nat.lt_succ_self _) (en1.ext xn) e1 (p1.later xn)
        rw [rn_at] at key
        exact key
      · cases e1
    · cases e1
  | .fst _ => by
    intro c k env h res h' e r σ H Q S en p
    simp only [ev] at e
    cases e
  | .rsl a => by
    intro c k env h res h' e r σ H Q S en p
    simp only [ev] at e
    refine s1 (sE cl a) k e S en p fun x h1 v r1 H1 e1 S1 x1 q1 en1 p1 => ?_
    split at e1
    · rename_i xs hx
      cases e1
      obtain ⟨pp, us, ev, e2, e3⟩ := lstOf_of S1 q1 hx
      subst ev
      exact ⟨pp, us, rfl, e2, s_newlist S1 (RepL.rev e3) p1⟩
    · cases e1
  | .dictT => by
    intro c k env h res h' e r σ H Q S en p
    simp only [ev] at e
    cases e
    intro a ha
    have x1 := (Free.extN (K := c.K) (r := r) (n := h.next) (u := .dT []) (.inl ha))
    have S1 : Sim c.K (rn r h.next a) (h.new (.dit [])) (upd H a (.dT [])) := S.new ha rfl ⟨[], upd_same, rfl, .nil⟩
    have q := p (.ref (rn r h.next a h.next)) _ _ S1 x1 (.ref (Nat.lt_succ_self _))
    rw [rn_at] at q
    exact q
  | .dgtT a es => by
    intro c k env h res h' e r σ H Q S en p
    simp only [ev] at e
    refine s1 (sE cl a) k e S en p fun x h1 v r1 H1 e1 S1 x1 q1 en1 p1 => s1A (sA cl es) k e1 S1 en1 p1 fun ks h2 us r2 H2 e2 S2 x2 q2 en2 p2 => ?_
    have q1' := q1.ext x2
    cases q1' with
    | @ref a la =>
      simp only at e2
      split at e2
      · rename_i hl
        split at e2
        · rename_i d hd
          cases e2
          refine ⟨by rw [q2.len]; exact lim_le hl, fun q nq => ?_⟩
          have xq := (Free.ext (K := c.K) (r := r2) (n := h'.next) (u := .tup us) (.inl nq))
          have S3 := S2.grow (u := .tup us) nq
          obtain ⟨u, g, g1, _⟩ := dgetT_of S3 (q2.ext xq) hd (b := q) upd_same
          obtain ⟨z, ez, qz⟩ := g1 _ rfl
          subst ez
          exact ⟨_, z, rfl, g, p2 z r2 _ S3 xq qz⟩
        · cases e2
      · cases e2
    | _ => cases e2
  | .getT a es d => by
    intro c k env h res h' e r σ H Q S en p
    simp only [ev] at e
    refine s1 (sE cl a) k e S en p fun x h1 v r1 H1 e1 S1 x1 q1 en1 p1 => ?_
    cases q1 with
    | @ref a la =>
      simp only at e1
      split at e1
      · rename_i o0 h0
        refine ⟨_, rfl, isD_of S1 h0, ?_⟩
        refine s1A (sA cl es) k e1 S1 en1 p1 fun ks h2 us r2 H2 e2 S2 x2 q2 en2 p2 => ?_
        have er : r2 a = r1 a := x2.at_ a la
        split at e2
        · rename_i hl
          split at e2
          · rename_i d hd
            cases e2
            refine ⟨by rw [q2.len]; exact lim_le hl, fun q nq => ?_⟩
            have xq := (Free.ext (K := c.K) (r := r2) (n := h'.next) (u := .tup us) (.inl nq))
            have S3 := S2.grow (u := .tup us) nq
            obtain ⟨u, g, g1, _⟩ := dgetT_of S3 (q2.ext xq) hd (b := q) upd_same
            obtain ⟨z, ez, qz⟩ := g1 _ rfl
            subst ez
            rw [er] at g
            exact ⟨_, g, p2 z r2 _ S3 xq qz⟩
          · rename_i hd
            cases e2
            refine ⟨by rw [q2.len]; exact lim_le hl, fun q nq => ?_⟩
            have xq := (Free.ext (K := c.K) (r := r2) (n := h'.next) (u := .tup us) (.inl nq))
            have S3 := S2.grow (u := .tup us) nq
            obtain ⟨u, g, _, g2⟩ := dgetT_of S3 (q2.ext xq) hd (b := q) upd_same
            rw [g2 rfl, er] at g
            exact ⟨_, g, p2 _ r2 _ S3 xq (repCst _ _ _ _ d)⟩
          · cases e2
        · cases e2
      · cases e1
    | _ => cases e1
  | .lck i a => by
    intro c k env h res h' e r σ H Q S en p
    simp only [ev] at e
    split at e
    · rename_i a0 ha0
      split at e
      · rename_i o ho
        split at e
        · rename_i o' hl
          obtain ⟨x, h2, e1, e2⟩ := bndN_cases e
          split at e2
          · rename_i hf
            cases e2
            obtain ⟨u, h1, m, L⟩ := S.lock ho hl
            refine ⟨r a0, u, h1, (dct_mut m).2, fun od => ?_⟩
            obtain ⟨S1, L2⟩ := L od
            have f : Free H (r a0) := S.free ho (by cases o <;> first | rfl | cases hl)
            refine sE cl a c k env _ _ h2 e1 r σ _ _ S1 (en.ext f.ext) ?_
            intro v r2 H2 S2 x2 q2
            obtain ⟨er, hd, S3, x3, x4⟩ := L2 r2 h2 H2 S2 x2 hf
            exact ⟨hd, p v r2 _ S3 x3 (q2.ext0 x4)⟩
          · cases e2
        · cases e
      · cases e
    · cases e
  | .isx i cm => by
    intro c k env h res h' e r σ H Q S en p
    simp only [ev] at e
    split at e
    · rename_i kk a he
      split at e
      · rename_i hx
        obtain ⟨d, e3, e4, e5⟩ := liftO_cases e
        obtain ⟨b, e6, e7⟩ := Option.map_eq_some_iff.mp e3
        subst e4 e5 e7
        obtain ⟨x1, x2, x3⟩ := k.xk _ _ hx
        obtain ⟨C, ko⟩ := k.exs _ _ _ e6
        obtain ⟨v, hv, rv⟩ := en.at_ _ _ he
        cases rv
        exact ⟨_, x2, x3, C, by rw [x1]; exact hv, b, ko, s_plain S (.bl _) p⟩
      · cases e
    · cases e
  | .isxB i cm => by
    intro c k env h res h' e r σ H Q S en p
    simp only [ev] at e
    split at e
    · rename_i kk a he
      split at e
      · rename_i hx
        obtain ⟨d, e3, e4, e5⟩ := liftO_cases e
        obtain ⟨b, e6, e7⟩ := Option.map_eq_some_iff.mp e3
        subst e4 e5 e7
        obtain ⟨x1, x2, x3⟩ := k.xk _ _ hx
        obtain ⟨C, ko⟩ := k.exb _ _ _ e6
        obtain ⟨v, hv, rv⟩ := en.at_ _ _ he
        cases rv
        exact ⟨_, x2, x3, C, by rw [x1]; exact hv, b, ko, s_plain S (.bl _) p⟩
      · cases e
    · cases e
  | .lrg a => by
    intro c k env h res h' e r σ H Q S en p
    simp only [ev] at e
    refine s1 (sE cl a) k e S en p fun x h1 v r1 H1 e1 S1 x1 q1 en1 p1 => ?_
    split at e1
    · rename_i n
      split at e1
      · rename_i hn
        cases e1
        cases q1
        refine ⟨n, rfl, RgOk.of_le (by omega) (by omega) (by omega) (by omega), ?_⟩
        have eq : rgV 0 n = (List.range n.toNat).map fun (i : Nat) => V.int (i : Int) := by
          unfold rgV
          simp
        rw [eq]
        refine s_newlist S1 ?_ p1
        have := repInts (K := c.K) (r := r1) (n := h1.next) (H := H1) ((List.range n.toNat).map fun (i : Nat) => (i : Int))
        simpa only [List.map_map, Function.comp_def] using this
      · cases e1
    · cases e1
  | .iso a cm => by
    intro c k env h res h' e r σ H Q S en p
    simp only [ev] at e
    refine s1 (sE cl a) k e S en p fun x h1 v r1 H1 e1 S1 x1 q1 en1 p1 => ?_
    split at e1
    · rename_i kk
      obtain ⟨d, e3, e4, e5⟩ := liftO_cases e1
      obtain ⟨b, e6, e7⟩ := Option.map_eq_some_iff.mp e3
      subst e4 e5 e7
      obtain ⟨C, ko⟩ := k.exs _ _ _ e6
      cases q1 with
      | xob k1 ha hz hf => exact ⟨_, _, _, _, _, b, rfl, ha, hz, hf, C, (fun u ru => by cases ru; rfl), ko, s_plain S1 (.bl _) p1⟩
    · cases e1
  | .isoB a cm => by
    intro c k env h res h' e r σ H Q S en p
    simp only [ev] at e
    refine s1 (sE cl a) k e S en p fun x h1 v r1 H1 e1 S1 x1 q1 en1 p1 => ?_
    split at e1
    · rename_i kk
      obtain ⟨d, e3, e4, e5⟩ := liftO_cases e1
      obtain ⟨b, e6, e7⟩ := Option.map_eq_some_iff.mp e3
      subst e4 e5 e7
      obtain ⟨C, ko⟩ := k.exb _ _ _ e6
      cases q1 with
      | xob k1 ha hz hf => exact ⟨_, _, _, _, _, b, rfl, ha, hz, hf, C, (fun u ru => ru), ko, s_plain S1 (.bl _) p1⟩
    · cases e1
  | .isc a cm => by
    intro c k env h res h' e r σ H Q S en p
    simp only [ev] at e
    refine s1 (sE cl a) k e S en p fun x h1 v r1 H1 e1 S1 x1 q1 en1 p1 => ?_
    split at e1
    · rename_i pp
      split at e1
      · rename_i c1 fs hp
        obtain ⟨d, e3, e4, e5⟩ := liftO_cases e1
        obtain ⟨b, e6, e7⟩ := Option.map_eq_some_iff.mp e3
        subst e4 e5 e7
        have J := k.sub _ _ _ e6
        cases q1 with
        | @ref _ lp =>
          obtain ⟨dx, ws, ho, _⟩ := (S1.obj pp _ hp).2
          exact ⟨_, .ref (ca c.K cm), _, .ref (ca c.K cm), b, rfl, .own _, .base (.ins ho J.cl J.ha J.hn J.htk J.hm), J.one, s_plain S1 (.bl _) p1⟩
      · cases e1
    · cases e1
  | .new0 cn => by
    intro c k env h res h' e r σ H Q S en p
    simp only [ev] at e
    cases e
    intro x dx nx ndx ne
    have nx' : upd H dx (.own x) x = none := by rw [upd_ne ne.symm]; exact nx
    have xa := (Free.ext (K := c.K) (r := r) (n := h.next) (u := .own x) (.inl ndx))
    have xb := (Free.extN (K := c.K) (r := r) (n := h.next) (u := .ins (ca c.K cn) dx []) (.inl nx'))
    have S2 : Sim c.K (rn r h.next x) (h.new (.ins cn [])) (upd (upd H dx (.own x)) x (.ins (ca c.K cn) dx [])) := (S.grow ndx).new nx' rfl ⟨dx, [], upd_same, rfl, .nil⟩
    have q := p (.ref (rn r h.next x h.next)) _ _ S2 (xa.trans xb) (.ref (Nat.lt_succ_self _))
    rw [rn_at] at q
    exact q
theorem sA (cl : Cl) : ∀ e : Es, SA cl e
  | .nil => by
    intro c k env h res h' e r σ H Q S en p
    simp only [evs] at e
    cases e
    exact p [] r H S Ext.refl .nil
  | .cons a es => by
    intro c k env h res h' e r σ H Q S en p
    simp only [evs] at e
    refine s1 (sE cl a) k e S en p fun x h1 v r1 H1 e1 S1 x1 q1 en1 p1 => s1A (sA cl es) k e1 S1 en1 p1 fun xs h2 vs r2 H2 e2 S2 x2 q2 en2 p2 => ?_
    cases e2
    exact p2 _ r2 H2 S2 Ext.refl (.cons (q1.ext x2) q2)
theorem sO (cl : Cl) : ∀ e : Eo, SO cl e
  | .none => by
    intro c k env h res h' e r σ H Q S en p
    simp only [evO] at e
    cases e
    exact p none r H S Ext.refl rfl
  | .some a => by
    intro c k env h res h' e r σ H Q S en p
    simp only [evO] at e
    refine s1 (sE cl a) k e S en p fun x h1 v r1 H1 e1 S1 x1 q1 en1 p1 => ?_
    cases q1 with
    | int i => cases e1; exact ⟨i, rfl, p1 _ r1 H1 S1 Ext.refl rfl⟩
    | _ => cases e1
theorem sT (cl : Cl) : ∀ e : T, ST cl e
  | .yes => by
    intro c k env h res h' e r σ H Q S en p
    simp only [evT] at e
    cases e
    exact p true r H S Ext.refl rfl
  | .cmp o a b => by
    intro c k env h res h' e r σ H Q S en p
    simp only [evT] at e
    refine s1 (sE cl a) k e S en p fun x h1 v r1 H1 e1 S1 x1 q1 en1 p1 => s1 (sE cl b) k e1 S1 en1 p1 fun y h2 w r2 H2 e2 S2 x2 q2 en2 p2 => ?_
    obtain ⟨d, e3, e4, e5⟩ := liftO_cases e2
    subst e4 e5
    exact s_cmp S2 (q1.ext x2) q2 e3 ⟨d, rfl, p2 d r2 H2 S2 Ext.refl rfl⟩
  | .chn o o' a b d => by
    intro c k env h res h' e r σ H Q S en p
    simp only [evT] at e
    refine s1 (sE cl a) k e S en p fun x h1 v r1 H1 e1 S1 x1 q1 en1 p1 => s1 (sE cl b) k e1 S1 en1 p1 fun y h2 w r2 H2 e2 S2 x2 q2 en2 p2 => ?_
    split at e2
    · rename_i hc
      refine s_cmp S2 (q1.ext x2) q2 hc ⟨true, rfl, ?_⟩
      rw [if_pos rfl]
      refine s1 (sE cl d) k e2 S2 en2 p2 fun z h3 u r3 H3 e3 S3 x3 q3 en3 p3 => ?_
      obtain ⟨d, e4, e5, e6⟩ := liftO_cases e3
      subst e5 e6
      exact s_cmp S3 (q2.ext x3) q3 e4 ⟨d, rfl, p3 d r3 H3 S3 Ext.refl rfl⟩
    · rename_i hc
      cases e2
      refine s_cmp S2 (q1.ext x2) q2 hc ⟨false, rfl, ?_⟩
      rw [if_neg Bool.false_ne_true]
      exact ⟨false, rfl, p2 false r2 H2 S2 Ext.refl rfl⟩
    · cases e2
  | .and a b => by
    intro c k env h res h' e r σ H Q S en p
    simp only [evT] at e
    refine s1T (sT cl a) k e S en p fun x h1 r1 H1 e1 S1 x1 en1 p1 => ?_
    cases x with
    | true => rw [if_pos rfl] at e1 ⊢; exact sT cl b c k env h1 _ h' e1 r1 σ H1 Q S1 en1 p1
    | false =>
      rw [if_neg Bool.false_ne_true] at e1 ⊢
      cases e1
      exact p1 _ r1 H1 S1 Ext.refl rfl
  | .or a b => by
    intro c k env h res h' e r σ H Q S en p
    simp only [evT] at e
    refine s1T (sT cl a) k e S en p fun x h1 r1 H1 e1 S1 x1 en1 p1 => ?_
    cases x with
    | true =>
      rw [if_pos rfl] at e1 ⊢
      cases e1
      exact p1 _ r1 H1 S1 Ext.refl rfl
    | false => rw [if_neg Bool.false_ne_true] at e1 ⊢; exact sT cl b c k env h1 _ h' e1 r1 σ H1 Q S1 en1 p1
  | .not a => by
    intro c k env h res h' e r σ H Q S en p
    simp only [evT] at e
    refine s1T (sT cl a) k e S en p fun x h1 r1 H1 e1 S1 x1 en1 p1 => ?_
    cases e1
    exact p1 _ r1 H1 S1 Ext.refl rfl
  | .tru a => by
    intro c k env h res h' e r σ H Q S en p
    simp only [evT] at e
    refine s1 (sE cl a) k e S en p fun x h1 v r1 H1 e1 S1 x1 q1 en1 p1 => ?_
    obtain ⟨d, e3, e4, e5⟩ := liftO_cases e1
    subst e4 e5
    exact ⟨d, s_tru S1 q1 e3, p1 d r1 H1 S1 Ext.refl rfl⟩
end
end Z

set_option maxRecDepth 100000
set_option maxHeartbeats 2000000
/-! ZK: statements: their readings, and that the model's runs suffice. -/
namespace Z
open PySem L2

/-- a, b, .. = a tuple, or a list -/
def gSeq (K : PySem.W.Frag) (is : List Nat) : TG := fun v σ H Q => gTup K is.length (gsR is) v σ H Q ∨ gLst K is.length (gsR is) v σ H Q
theorem zg_seq {X : Cx} {es : List Expr} {k : Nat} {is : List Nat} {pos : Pos} (hc : X.calm = true) (h : PGs X es (gsR is))
    (hn : (assignEach es X.env).length = is.length := by rfl) (hst : (assignEach es X.env).findIdx? (·.1) = none := by rfl) : L2.PG X (.Tuple es k pos) (gSeq X.K is) := by
  refine ⟨fun pins s σ H v u Q I r hw => ?_⟩
  rcases hw with hw | hw
  · exact (pg_tup hc h hn hst).run pins s σ H v u Q I r hw
  · exact (pg_lst hc h hn hst).run pins s σ H v u Q I r hw
/-- xs[i], i from 0 on -/
def rGetL : V → V → Hp → VK → Prop := fun o i H Q => ∃ (p : Addr) (xs : List V) (k : Int) (v : V), o = .ref p ∧ i = .int k ∧ 0 ≤ k ∧ H p = some (.lst xs) ∧ xs[k.toNat]? = some v ∧ Q v H
theorem get_at {X : Cx} : PGet X rGetL := by
  intro pins s σ H o i ov iv Q I ro ri h
  obtain ⟨p, xs, k, v, rfl, rfl, hk, hp, hv, q⟩ := h
  cases ro
  obtain ⟨t, rfl⟩ := ri
  obtain ⟨its, r, pl, hz⟩ := I.list (xs := xs) (a := p) (.inl (.inl hp))
  obtain ⟨w, ew, rw'⟩ := r.get hv
  have hl := r.length
  have hn := line63
  have hlt := (List.getElem?_eq_some_iff.mp hv).1
  exact PySem.wpAny_getItem_list pl.isList hk (by omega) (by simpa using ew) ⟨v, H, I, rw', q⟩
def rAug : Bop → V → V → Hp → VK → Prop
  | .add => fun x y H Q => ∃ i j, x = .int i ∧ y = .int j ∧ Q (.int (i + j)) H
  | .sub => fun x y H Q => ∃ i j, x = .int i ∧ y = .int j ∧ Q (.int (i - j)) H
  | _ => fun _ _ _ _ => False
def rdS (c : RC) : S → TS
  | .skip => tNext
  | .seq a b => tSeq (rdS c a) (rdS c b)
  | .asg i e => tAsg (rdE c e) (gName i)
  | .unp is e => tAsg (rdE c e) (gSeq c.K is)
  | .sfld o f e => sFld c.K (rdE c o) (rdE c e) (Str.ofString f)
  | .sidx o i e => tAsg (rdE c e) (gSub (rdE c o) (rdE c i) rSetL)
  | .dput o i e => sDPut (rdE c o) (rdE c i) (rdE c e)
  | .aug i o e => tAug i (rdE c e) (rAug o)
  | .augf o f op e => sFldAug c.K (rdE c o) (rdE c e) (rAug op) (Str.ofString f)
  | .augi o i op e => tAugS (rdE c o) (rdE c i) (rdE c e) rGetL (rAug op) rSetL
  | .ite t a b => tIfS (rdT c t) (rdS c a) (rdS c b)
  | .for_ g k es body => tFor (rdI c.K k (rdA c es)) (rdG c.K g) (rdS c body)
  | .wh t body => tWhile (rdT c t) (rdS c body)
  | .ret e => tRet (rdE c e)
  | .drop e => tDrop (rdE c e)
  | .rai cn => fun _ σ H => c.W (.ref (ca c.K cn)) none σ H
  | .try_ b cn x s => (match x with
    | none => fun D σ H => rdS (c.with (wOnly c.K (.ref (ca c.K cn)) (fun _ _ _ => rdS (c.with noW) s) c.W D)) b D σ H
    | some i => fun D σ H => rdS (c.with (wAs c.K (.ref (ca c.K cn)) i (fun a cls d D σ H => ∃ k, cls = .ref (ca c.K k) ∧ rdS (c.exc k a cls d) s D σ H) c.W D)) b D σ H)
  | .tryK b cn i j => fun D σ H => rdS (c.with (Kept.wish c.K (.ref (ca c.K cn)) i (fun _ => tAsg (tVar i) (gName j)) D)) b D σ H
  | .dputT o es e => sDPut (rdE c o) (tTup (rdA c es)) (rdE c e)
  | .lck _ s => tLock (rdS c s)
  | .par i j es => tPar i j (rdA c es)

/-- what is wished behind a statement -/
def PS' (c : RC) (r : Rho) (h : Hm) (H : Hp) (D : Ends) (env' : Env) (h' : Hm) : Fl → Prop
  | .nx => ∀ σ' r' H', Sim c.K r' h' H' → Ext c.K r h.next H r' h'.next H' → EnvR c.K r' h'.next H' σ' env' → D.nx σ' H'
  | .rt d => ∀ v r' H', Sim c.K r' h' H' → Ext c.K r h.next H r' h'.next H' → RepV c.K r' h'.next H' v d → D.rt v H'
  | .ex k => ∀ σ' r' H', Sim c.K r' h' H' → Ext c.K r h.next H r' h'.next H' → EnvR c.K r' h'.next H' σ' env' → c.W (.ref (ca c.K k)) none σ' H'
section
variable {cl : Cl} {c : RC} {env env' : Env} {h h' h1 : Hm} {r r1 : Rho} {σ : L2.St} {H H1 : Hp} {D : Ends} {fl : Fl}
theorem PS'.later (p : PS' c r h H D env' h' fl) (e : Ext c.K r h.next H r1 h1.next H1) : PS' c r1 h1 H1 D env' h' fl := by
  cases fl with
  | nx => exact fun σ' r' H' S x q => p σ' r' H' S (e.trans x) q
  | rt d => exact fun v r' H' S x q => p v r' H' S (e.trans x) q
  | ex k => exact fun σ' r' H' S x q => p σ' r' H' S (e.trans x) q
def SS (cl : Cl) (s : Z.S) : Prop := ∀ (c : RC), RCok c cl → ∀ env h fl env' h', ex c.P cl s env h = some (fl, env', h') → ∀ r σ H D, Sim c.K r h H → EnvR c.K r h.next H σ env → PS' c r h H D env' h' fl → rdS c s D σ H
theorem toS_cases {α : Type} {m : Res α} {f : α → Hm → Out} (e : toS m env f = some (fl, env', h')) : (∃ x h1, m = some (.ok x, h1) ∧ f x h1 = some (fl, env', h')) ∨ ∃ k, m = some (.error k, h') ∧ fl = .ex k ∧ env' = env := by
  match m, e with
  | some (.ok x, h1), e => exact .inl ⟨x, h1, rfl, e⟩
  | some (.error k, h1), e => cases e; exact .inr ⟨k, rfl, rfl, rfl⟩
/-- an expression, then f -/
theorem t1 {a : E} (k : RCok c cl) {f : Z.D → Hm → Out} (e : toS (ev c.P cl a env h) env f = some (fl, env', h')) (S : Sim c.K r h H) (en : EnvR c.K r h.next H σ env) (p : PS' c r h H D env' h' fl) {Q : VK}
    (w : ∀ x h1 v r1 H1, f x h1 = some (fl, env', h') → Sim c.K r1 h1 H1 → Ext c.K r h.next H r1 h1.next H1 → RepV c.K r1 h1.next H1 v x → EnvR c.K r1 h1.next H1 σ env → PS' c r1 h1 H1 D env' h' fl → Q v H1) : rdE c a σ H Q := by
  rcases toS_cases e with ⟨x, h1, e1, e2⟩ | ⟨kk, e1, e2, e3⟩
  · exact sE cl a c k env h _ h1 e1 r σ H Q S en fun v r1 H1 S1 x1 q1 => w x h1 v r1 H1 e2 S1 x1 q1 (en.ext x1) (p.later x1)
  · subst e2 e3
    exact sE cl a c k env' h _ h' e1 r σ H Q S en fun r' H' S' x' => p σ r' H' S' x' (en.ext x')
theorem t1T {a : T} (k : RCok c cl) {f : Bool → Hm → Out} (e : toS (evT c.P cl a env h) env f = some (fl, env', h')) (S : Sim c.K r h H) (en : EnvR c.K r h.next H σ env) (p : PS' c r h H D env' h' fl) {Q : Bool → Hp → Prop}
    (w : ∀ x h1 r1 H1, f x h1 = some (fl, env', h') → Sim c.K r1 h1 H1 → Ext c.K r h.next H r1 h1.next H1 → EnvR c.K r1 h1.next H1 σ env → PS' c r1 h1 H1 D env' h' fl → Q x H1) : rdT c a σ H Q := by
  rcases toS_cases e with ⟨x, h1, e1, e2⟩ | ⟨kk, e1, e2, e3⟩
  · refine sT cl a c k env h _ h1 e1 r σ H Q S en fun v r1 H1 S1 x1 q1 => ?_
    subst q1
    exact w v h1 r1 H1 e2 S1 x1 (en.ext x1) (p.later x1)
  · subst e2 e3
    exact sT cl a c k env' h _ h' e1 r σ H Q S en fun r' H' S' x' => p σ r' H' S' x' (en.ext x')
theorem t1A {a : Es} (k : RCok c cl) {f : List Z.D → Hm → Out} (e : toS (evs c.P cl a env h) env f = some (fl, env', h')) (S : Sim c.K r h H) (en : EnvR c.K r h.next H σ env) (p : PS' c r h H D env' h' fl) {Q : List V → Hp → Prop}
    (w : ∀ x h1 v r1 H1, f x h1 = some (fl, env', h') → Sim c.K r1 h1 H1 → Ext c.K r h.next H r1 h1.next H1 → RepL c.K r1 h1.next H1 v x → EnvR c.K r1 h1.next H1 σ env → PS' c r1 h1 H1 D env' h' fl → Q v H1) : rdA c a σ H Q := by
  rcases toS_cases e with ⟨x, h1, e1, e2⟩ | ⟨kk, e1, e2, e3⟩
  · exact sA cl a c k env h _ h1 e1 r σ H Q S en fun v r1 H1 S1 x1 q1 => w x h1 v r1 H1 e2 S1 x1 q1 (en.ext x1) (p.later x1)
  · subst e2 e3
    exact sA cl a c k env' h _ h' e1 r σ H Q S en fun r' H' S' x' => p σ r' H' S' x' (en.ext x')
theorem s_aug {o : Bop} {x y z : Z.D} {v w : V} {n : Nat} {Q : VK} (e : augD o x y = some z) (qx : RepV c.K r n H v x) (qy : RepV c.K r n H w y) (p : ∀ u, RepV c.K r n H u z → Q u H) : rAug o v w H Q := by
  cases qx with
  | int i =>
    cases qy with
    | int j => cases o <;> first | (cases e; exact ⟨i, j, rfl, rfl, p _ (.int _)⟩) | cases e
    | _ => cases o <;> cases e
  | _ => cases qy <;> cases o <;> cases e
/-- a for's turns -/
theorem s_for {body : Z.S} {g : Tg} {gd : List (Nat × O)} {items : List Z.D} (hB : SS cl body) (k : RCok c cl) {J : It} {n1 : Nat} (G : Gives c.K J items gd r1 n1 H1) {r0 : Rho} {h0 : Hm} {H0 : Hp} {env0 : Env} {σ0 : L2.St} (S0 : Sim c.K r0 h0 H0)
    (x0 : Ext c.K r1 n1 H1 r0 h0.next H0) (en : EnvR c.K r0 h0.next H0 σ0 env0) (e : forL (fun e1 h2 => ex c.P cl body e1 h2) g gd items env0 h0 = some (fl, env', h')) (p : PS' c r0 h0 H0 D env' h' fl) :
    ∃ W : Nat → Nat → L2.St → Hp → Prop, (∃ m, W 0 m σ0 H0) ∧ ∀ i m σ H, W i m σ H → (J.stop i H ∧ D.nx σ H) ∨ (J.go i H ∧ ∃ N : L2.St → Hp → Prop, (∀ σ' H', N σ' H' → ∃ m', m' < m ∧ W (i + 1) m' σ' H') ∧
      ∀ x H', J.yld i H x H' → rdG c.K g x σ H' fun σ2 H2 => rdS c body { D with nx := N, ct := N, bk := D.nx } σ2 H2) := by
  refine ⟨fun i m σ H => m = items.length - i ∧ i ≤ items.length ∧ ∃ r h env, Sim c.K r h H ∧ Ext c.K r0 h0.next H0 r h.next H ∧ EnvR c.K r h.next H σ env ∧
    forL (fun e1 h2 => ex c.P cl body e1 h2) g gd (items.drop i) env h = some (fl, env', h'), ⟨_, rfl, Nat.zero_le _, r0, h0, env0, S0, Ext.refl, en, e⟩, ?_⟩
  rintro i m σ H ⟨rfl, hi, r, h, env, S, x, en, e⟩
  cases hd : items[i]? with
  | none =>
    have hl : items.length ≤ i := List.getElem?_eq_none_iff.mp hd
    rw [List.drop_of_length_le hl] at e
    unfold forL at e
    split at e
    · rename_i st
      cases e
      exact .inl ⟨((G r _ H S (x0.trans x) st i).2 hl), p σ r H S x en⟩
    · cases e
  | some d =>
    have hil : i < items.length := (List.getElem?_eq_some_iff.mp hd).1
    have ed : items.drop i = d :: items.drop (i + 1) := by
      rw [List.drop_eq_getElem_cons hil]
      congr 1
      rw [List.getElem?_eq_getElem hil] at hd
      exact Option.some.inj hd
    rw [ed] at e
    unfold forL at e
    split at e
    · rename_i st
      obtain ⟨g1, g2⟩ := (G r h H S (x0.trans x) st i).1 d hd
      refine .inr ⟨g1, fun σ' H' => ∃ r h env, Sim c.K r h H' ∧ Ext c.K r0 h0.next H0 r h.next H' ∧ EnvR c.K r h.next H' σ' env ∧
        forL (fun e1 h2 => ex c.P cl body e1 h2) g gd (items.drop (i + 1)) env h = some (fl, env', h'), ?_, ?_⟩
      · rintro σ' H' ⟨r2, h2, env2, S2, x2, en2, e2⟩
        exact ⟨_, by omega, rfl, hil, r2, h2, env2, S2, x2, en2, e2⟩
      · intro y H' yl
        obtain ⟨S', x', q'⟩ := g2 y H' yl
        split at e
        · cases e
        · rename_i env1 he1
          refine s_g q' (en.ext x') he1 fun σ2 en2 _ => ?_
          have xx := x.trans x'
          cases hx : ex c.P cl body env1 h with
          | none => rw [hx] at e; cases e
          | some o =>
            obtain ⟨fl2, env2, h2⟩ := o
            rw [hx] at e
            refine hB c k env1 h fl2 env2 h2 hx r σ2 H' _ S' en2 ?_
            cases fl2 with
            | nx => exact fun σ3 r3 H3 S3 x3 en3 => ⟨r3, h2, env2, S3, xx.trans x3, en3, e⟩
            | rt d =>
              cases e
              exact fun v r3 H3 S3 x3 q3 => p v r3 H3 S3 (xx.trans x3) q3
            | ex kk =>
              cases e
              exact fun σ3 r3 H3 S3 x3 en3 => p σ3 r3 H3 S3 (xx.trans x3) en3
    · cases e
theorem s_wh {t : T} {body : Z.S} (hB : SS cl body) (k : RCok c cl) {n0 : Nat} (S : Sim c.K r h H) (en : EnvR c.K r h.next H σ env)
    (e : whl (fun e1 h1 => evT c.P cl t e1 h1) (fun e1 h1 => ex c.P cl body e1 h1) n0 env h = some (fl, env', h')) (p : PS' c r h H D env' h' fl) : tWhile (rdT c t) (rdS c body) D σ H := by
  refine ⟨fun m σ1 H1 => ∃ r1 h1 env1, Sim c.K r1 h1 H1 ∧ Ext c.K r h.next H r1 h1.next H1 ∧ EnvR c.K r1 h1.next H1 σ1 env1 ∧ whl (fun e1 h1 => evT c.P cl t e1 h1) (fun e1 h1 => ex c.P cl body e1 h1) m env1 h1 = some (fl, env', h'),
    ⟨n0, r, h, env, S, Ext.refl, en, e⟩, ?_⟩
  rintro m σ1 H1 ⟨r1, h1, env1, S1, x1, en1, e1⟩
  cases m with
  | zero => cases e1
  | succ m =>
    unfold whl at e1
    refine t1T k e1 S1 en1 (p.later x1) fun b h2 r2 H2 e2 S2 x2 en2 p2 => ?_
    cases b with
    | false =>
      rw [if_neg Bool.false_ne_true] at e2 ⊢
      cases e2
      exact p2 σ1 r2 H2 S2 Ext.refl en2
    | true =>
      rw [if_pos rfl] at e2 ⊢
      refine ⟨fun σ' H' => ∃ r1 h1 env1, Sim c.K r1 h1 H' ∧ Ext c.K r h.next H r1 h1.next H' ∧ EnvR c.K r1 h1.next H' σ' env1 ∧ whl (fun e1 h1 => evT c.P cl t e1 h1) (fun e1 h1 => ex c.P cl body e1 h1) m env1 h1 = some (fl, env', h'),
        fun σ' H' q => ⟨m, Nat.lt_succ_self _, q⟩, ?_⟩
      have xx := x1.trans x2
      cases hx : ex c.P cl body env1 h2 with
      | none => rw [hx] at e2; cases e2
      | some o =>
        obtain ⟨fl2, env2, h3⟩ := o
        rw [hx] at e2
        refine hB c k env1 h2 fl2 env2 h3 hx r2 σ1 H2 _ S2 en2 ?_
        cases fl2 with
        | nx => exact fun σ3 r3 H3 S3 x3 en3 => ⟨r3, h3, env2, S3, xx.trans x3, en3, e2⟩
        | rt d =>
          cases e2
          exact fun v r3 H3 S3 x3 q3 => p v r3 H3 S3 (xx.trans x3) q3
        | ex kk =>
          cases e2
          exact fun σ3 r3 H3 S3 x3 en3 => p σ3 r3 H3 S3 (xx.trans x3) en3
theorem ixD_of {n m : Nat} {k : Int} {j : Nat} (e : ixD n k = some j) (hn : m = n) : ixN m k = some j := by
  subst hn
  exact e
theorem dput_of {a : Nat} {x : Z.D} {z y : Z.D} {v w : V} (S : Sim c.K r h H) (qk : RepV c.K r h.next H v z) (qv : RepV c.K r h.next H w x) (e : dput h a z x = some h1) :
    ∃ H1, DPut H (r a) v w H1 ∧ Sim c.K r h1 H1 ∧ Ext c.K r h.next H r h1.next H1 := by
  unfold dput at e
  split at e
  · rename_i kvs ha
    split at e
    · rename_i hl
      obtain ⟨q, e1, e2⟩ := Option.map_eq_some_iff.mp e
      subst e2
      obtain ⟨ws, g1, g2⟩ := (S.obj a _ ha).2
      have el : ws.length = kvs.length := by simpa using congrArg List.length g2.1
      rw [key_of qk e1]
      have xx := (S.free ha rfl).ext (K := c.K) (r := r) (n := h.next) (u := .dK (putK ws q w))
      exact ⟨_, DPut.k g1 (by rw [el]; exact lim_lt hl), S.put ha rfl rfl ⟨_, upd_same, RepK.ext xx (repK_put q qv g2)⟩, xx⟩
    · cases e
  · cases e
end

section
variable {cl : Cl} {c : RC} {h h1 : Hm} {r : Rho} {H : Hp}
theorem dputT_of {a : Nat} {x : Z.D} {ks : List Z.D} {us : List V} {w : V} {b : Addr} (S : Sim c.K r h H) (qk : RepL c.K r h.next H us ks) (hb : H b = some (.tup us)) (qv : RepV c.K r h.next H w x) (e : dputT h a ks x = some h1) :
    ∃ H1, DPut H (r a) (.ref b) w H1 ∧ Sim c.K r h1 H1 ∧ Ext c.K r h.next H r h1.next H1 := by
  unfold dputT at e
  split at e
  · rename_i kvs ha
    split at e
    · rename_i hl
      obtain ⟨q, e1, e2⟩ := Option.map_eq_some_iff.mp e
      subst e2
      obtain ⟨ws, g1, g2⟩ := (S.obj a _ ha).2
      have el : ws.length = kvs.length := by simpa using congrArg List.length g2.1
      rw [keys_of qk e1] at hb
      have xx := (S.free ha rfl).ext (K := c.K) (r := r) (n := h.next) (u := .dT (putK ws q w))
      exact ⟨_, DPut.t g1 hb (by rw [el]; exact lim_lt hl), S.put ha rfl rfl ⟨_, upd_same, RepK.ext xx (repK_put q qv g2)⟩, xx⟩
    · cases e
  · cases e
end

theorem sS (cl : Cl) : ∀ s : Z.S, SS cl s
  | .skip => by
    intro c k env h fl env' h' e r σ H D S en p
    simp only [ex] at e
    cases e
    exact p σ r H S Ext.refl en
  | .seq a b => by
    intro c k env h fl env' h' e r σ H D S en p
    simp only [ex] at e
    cases hx : ex c.P cl a env h with
    | none => rw [hx] at e; cases e
    | some o =>
      obtain ⟨fl2, env2, h2⟩ := o
      rw [hx] at e
      refine sS cl a c k env h fl2 env2 h2 hx r σ H _ S en ?_
      cases fl2 with
      | nx => exact fun σ3 r3 H3 S3 x3 en3 => sS cl b c k env2 h2 fl env' h' e r3 σ3 H3 D S3 en3 (p.later x3)
      | rt d => cases e; exact p
      | ex kk => cases e; exact p
  | .asg i a => by
    intro c k env h fl env' h' e r σ H D S en p
    simp only [ex] at e
    refine t1 k e S en p fun x h1 v r1 H1 e1 S1 x1 q1 en1 p1 => ?_
    cases e1
    exact p1 _ r1 H1 S1 Ext.refl (en1.set i q1)
  | .unp is a => by
    intro c k env h fl env' h' e r σ H D S en p
    simp only [ex] at e
    refine t1 k e S en p fun x h1 v r1 H1 e1 S1 x1 q1 en1 p1 => ?_
    split at e1
    · rename_i xs hs
      split at e1
      · rename_i env1 he
        cases e1
        obtain ⟨pp, us, ev, e2, e3⟩ := seqOf_of S1 q1 hs
        subst ev
        have hl := gsR_len is xs env he
        have fin : gsR is us σ H1 D.nx := s_gs e3 en1 he fun σ1 en2 _ => p1 σ1 r1 H1 S1 Ext.refl en2
        rcases e2 with e2 | e2
        · exact .inr ⟨pp, us, rfl, e2, by rw [e3.len]; exact hl, fin⟩
        · exact .inl ⟨pp, us, rfl, e2, by rw [e3.len]; exact hl, fin⟩
      · cases e1
    · cases e1
  | .sfld o f a => by
    intro c k env h fl env' h' e r σ H D S en p
    simp only [ex] at e
    refine t1 k e S en p fun x h1 v r1 H1 e1 S1 x1 q1 en1 p1 => t1 k e1 S1 en1 p1 fun y h2 w r2 H2 e2 S2 x2 q2 en2 p2 => ?_
    cases q2 with
    | @ref a la =>
      simp only at e2
      split at e2
      · rename_i cn fs ha
        split at e2
        · rename_i hf
          cases e2
          obtain ⟨dx, ws, g1, g2⟩ := (S2.obj a _ ha).2
          obtain ⟨c1, c2⟩ := k.fld cn f hf.1
          have xx := (S2.free ha rfl).ext (K := c.K) (r := r2) (n := h2.next) (u := .ins (ca c.K cn) dx (putF (Str.ofString f) v ws))
          refine ⟨_, _, dx, ws, rfl, g1, c1, c2, by rw [repF_len g2]; exact hf.2, ?_⟩
          exact p2 σ r2 _ (S2.put ha rfl rfl ⟨dx, _, upd_same, RepF.ext xx (repF_put (q1.ext x2) g2)⟩) xx (en2.ext xx)
        · cases e2
      · cases e2
    | _ => cases e2
  | .sidx o i a => by
    intro c k env h fl env' h' e r σ H D S en p
    simp only [ex] at e
    refine t1 k e S en p fun x h1 v r1 H1 e1 S1 x1 q1 en1 p1 => t1 k e1 S1 en1 p1 fun y h2 w r2 H2 e2 S2 x2 q2 en2 p2 => t1 k e2 S2 en2 p2 fun z h3 u r3 H3 e3 S3 x3 q3 en3 p3 => ?_
    have q2' := q2.ext x3
    cases q2' with
    | @ref a la =>
      cases q3 with
      | int kk =>
        simp only at e3
        split at e3
        · rename_i xs ha
          split at e3
          · rename_i j hj
            cases e3
            obtain ⟨vs, g1, g2⟩ := (S3.obj a _ ha).2
            have xx := (S3.free ha rfl).ext (K := c.K) (r := r3) (n := h3.next) (u := .lst (vs.set j v))
            refine ⟨_, vs, kk, j, rfl, rfl, g1, ixD_of hj g2.len, ?_⟩
            exact p3 σ r3 _ (S3.put ha rfl rfl ⟨_, upd_same, (g2.ext xx).set (q1.ext ((x2.trans x3).trans xx)) j⟩) xx (en3.ext xx)
          · cases e3
        · cases e3
      | _ => cases e3
    | _ => cases q3 <;> cases e3
  | .dput o i a => by
    intro c k env h fl env' h' e r σ H D S en p
    simp only [ex] at e
    refine t1 k e S en p fun x h1 v r1 H1 e1 S1 x1 q1 en1 p1 => t1 k e1 S1 en1 p1 fun y h2 w r2 H2 e2 S2 x2 q2 en2 p2 => t1 k e2 S2 en2 p2 fun z h3 u r3 H3 e3 S3 x3 q3 en3 p3 => ?_
    have q2' := q2.ext x3
    cases q2' with
    | @ref a la =>
      simp only at e3
      split at e3
      · rename_i h4 hp
        cases e3
        obtain ⟨H4, g1, g2, g3⟩ := dput_of (y := z) S3 q3 (q1.ext (x2.trans x3)) hp
        exact ⟨_, H4, rfl, g1, p3 σ r3 H4 g2 g3 (en3.ext g3)⟩
      · cases e3
    | _ => cases e3
  | .aug i o a => by
    intro c k env h fl env' h' e r σ H D S en p
    simp only [ex] at e
    split at e
    · rename_i d hd
      obtain ⟨v, e1, q⟩ := en.at_ i d hd
      refine ⟨v, e1, ?_⟩
      refine t1 k e S en p fun x h1 w r1 H1 e1 S1 x1 q1 en1 p1 => ?_
      split at e1
      · rename_i z hz
        cases e1
        exact s_aug hz (q.ext x1) q1 fun u qu => p1 _ r1 H1 S1 Ext.refl (en1.set i qu)
      · cases e1
    · cases e
  | .augf o f op a => by
    intro c k env h fl env' h' e r σ H D S en p
    simp only [ex] at e
    refine t1 k e S en p fun x h1 v r1 H1 e1 S1 x1 q1 en1 p1 => ?_
    cases q1 with
    | @ref a la =>
      simp only at e1
      split at e1
      · rename_i cn fs ha
        split at e1
        · rename_i hf
          split at e1
          · rename_i d hd
            obtain ⟨dx, ws, g1, g2⟩ := (S1.obj a _ ha).2
            obtain ⟨c1, c2⟩ := k.fld cn f hf
            obtain ⟨u, g3, g4⟩ := repF_get g2 hd
            refine ⟨_, _, dx, ws, u, rfl, g1, c1, c2, g3, ?_⟩
            refine t1 k e1 S1 en1 p1 fun y h2 w r2 H2 e2 S2 x2 q2 en2 p2 => ?_
            split at e2
            · rename_i z hz
              split at e2
              · rename_i cn' fs' ha'
                split at e2
                · rename_i hc
                  obtain ⟨rfl, hl⟩ := hc
                  cases e2
                  obtain ⟨dx', ws', g5, g6⟩ := (S2.obj a _ ha').2
                  refine s_aug hz (g4.ext x2) q2 fun u2 qu => ?_
                  have xx := (S2.free ha' rfl).ext (K := c.K) (r := r2) (n := h2.next) (u := .ins (ca c.K cn') dx' (putF (Str.ofString f) u2 ws'))
                  have er : r2 a = r1 a := x2.at_ a la
                  rw [← er]
                  refine ⟨dx', ws', g5, by rw [repF_len g6]; exact hl, ?_⟩
                  exact p2 σ r2 _ (S2.put ha' rfl rfl ⟨dx', _, upd_same, RepF.ext xx (repF_put qu g6)⟩) xx (en2.ext xx)
                · cases e2
              · cases e2
            · cases e2
          · cases e1
        · cases e1
      · cases e1
    | _ => cases e1
  | .augi o i op a => by
    intro c k env h fl env' h' e r σ H D S en p
    simp only [ex] at e
    refine t1 k e S en p fun y h1 v r1 H1 e1 S1 x1 q1 en1 p1 => t1 k e1 S1 en1 p1 fun z h2 w r2 H2 e2 S2 x2 q2 en2 p2 => ?_
    cases q1 with
    | @ref a la =>
      cases q2 with
      | int kk =>
        simp only at e2
        split at e2
        · rename_i xs ha
          split at e2
          · rename_i hk
            split at e2
            · rename_i x hx
              obtain ⟨vs, g1, g2⟩ := (S2.obj a _ ha).2
              obtain ⟨u, g3, g4⟩ := g2.get hx
              have er : r2 a = r1 a := x2.at_ a la
              rw [er] at g1
              refine ⟨r1 a, vs, kk, u, rfl, rfl, hk, g1, g3, ?_⟩
              refine t1 k e2 S2 en2 p2 fun v3 h3 w3 r3 H3 e3 S3 x3 q3 en3 p3 => ?_
              split at e3
              · rename_i w4 ys hz hy
                split at e3
                · rename_i hl
                  cases e3
                  refine s_aug hz (g4.ext x3) q3 fun u2 qu => ?_
                  obtain ⟨vs', g5, g6⟩ := (S3.obj a _ hy).2
                  have er3 : r3 a = r1 a := (x3.at_ a (Nat.lt_of_lt_of_le la x2.le)).trans er
                  have xx := (S3.free hy rfl).ext (K := c.K) (r := r3) (n := h3.next) (u := .lst (vs'.set kk.toNat u2))
                  rw [← er3]
                  refine ⟨_, vs', kk, kk.toNat, rfl, rfl, g5, ?_, ?_⟩
                  · refine ixD_of (n := ys.length) ?_ g6.len
                    unfold ixD
                    rw [if_pos hk, if_pos (by omega)]
                  · exact p3 σ r3 _ (S3.put hy rfl rfl ⟨_, upd_same, (g6.ext xx).set (qu.ext xx) _⟩) xx (en3.ext xx)
                · cases e3
              · cases e3
            · cases e2
          · cases e2
        · cases e2
      | _ => cases e2
    | _ => cases q2 <;> cases e2
  | .ite t a b => by
    intro c k env h fl env' h' e r σ H D S en p
    simp only [ex] at e
    refine t1T k e S en p fun x h1 r1 H1 e1 S1 x1 en1 p1 => ?_
    cases x with
    | true => rw [if_pos rfl] at e1 ⊢; exact sS cl a c k env h1 fl env' h' e1 r1 σ H1 D S1 en1 p1
    | false => rw [if_neg Bool.false_ne_true] at e1 ⊢; exact sS cl b c k env h1 fl env' h' e1 r1 σ H1 D S1 en1 p1
  | .for_ g kk es body => by
    intro c k env h fl env' h' e r σ H D S en p
    simp only [ex] at e
    refine t1A k e S en p fun ds h1 vs r1 H1 e1 S1 x1 q1 en1 p1 => ?_
    split at e1
    · rename_i items gd hw
      exact s_walk S1 q1 hw fun J G => s_for (sS cl body) k G S1 Ext.refl en1 e1 p1
    · cases e1
  | .wh t body => by
    intro c k env h fl env' h' e r σ H D S en p
    simp only [ex] at e
    exact s_wh (sS cl body) k S en e p
  | .ret a => by
    intro c k env h fl env' h' e r σ H D S en p
    simp only [ex] at e
    refine t1 k e S en p fun x h1 v r1 H1 e1 S1 x1 q1 en1 p1 => ?_
    cases e1
    exact p1 v r1 H1 S1 Ext.refl q1
  | .drop a => by
    intro c k env h fl env' h' e r σ H D S en p
    simp only [ex] at e
    refine t1 k e S en p fun x h1 v r1 H1 e1 S1 x1 q1 en1 p1 => ?_
    cases e1
    exact p1 σ r1 H1 S1 Ext.refl en1
  | .rai cn => by
    intro c k env h fl env' h' e r σ H D S en p
    simp only [ex] at e
    cases e
    exact p σ r H S Ext.refl en
  | .try_ b cn none s => by
    intro c k env h fl env' h' e r σ H D S en p
    simp only [ex] at e
    cases e0 : ex c.P cl b env h with
    | none => rw [e0] at e; cases e
    | some o =>
      obtain ⟨fl0, env2, h2⟩ := o
      rw [e0] at e
      show rdS (c.with (wOnly c.K (.ref (ca c.K cn)) (fun _ _ _ => rdS (c.with noW) s) c.W D)) b D σ H
      refine sS cl b (c.with (wOnly c.K (.ref (ca c.K cn)) (fun _ _ _ => rdS (c.with noW) s) c.W D)) (k.with _) env h fl0 env2 h2 e0 r σ H D S en ?_
      cases fl0 with
      | nx => cases e; exact p
      | rt d => cases e; exact p
      | ex kk =>
        dsimp only at e
        cases eb : c.P.exm kk cn with
        | none => rw [eb] at e; cases e
        | some bb =>
          rw [eb] at e
          have eo := k.exm _ _ _ eb
          intro σ' r' H' S' x' en'
          cases bb with
          | false =>
            cases e
            exact ⟨false, eo, (fun z => nomatch z), fun _ => p σ' r' H' S' x' en'⟩
          | true =>
            refine ⟨true, eo, fun _ a na => ?_, fun z => nomatch z⟩
            dsimp only at e
            cases e1 : ex c.P cl s env2 h2 with
            | none => rw [e1] at e; cases e
            | some o1 =>
              obtain ⟨fl1, env3, h3⟩ := o1
              rw [e1] at e
              have p' := p.later x'
              cases fl1 with
              | nx =>
                cases e
                exact sS cl s (c.with noW) (k.with _) env2 h2 .nx _ _ e1 r' σ' H' D S' en' p'
              | rt d =>
                cases e
                exact sS cl s (c.with noW) (k.with _) env2 h2 (.rt d) _ _ e1 r' σ' H' D S' en' p'
              | ex k2 => cases e
  | .tryK b cn i j => by
    intro c k env h fl env' h' e r σ H D S en p
    simp only [ex] at e
    cases e0 : ex c.P cl b env h with
    | none => rw [e0] at e; cases e
    | some o =>
      obtain ⟨fl0, env2, h2⟩ := o
      rw [e0] at e
      show rdS (c.with (Kept.wish c.K (.ref (ca c.K cn)) i (fun _ => tAsg (tVar i) (gName j)) D)) b D σ H
      refine sS cl b (c.with (Kept.wish c.K (.ref (ca c.K cn)) i (fun _ => tAsg (tVar i) (gName j)) D)) (k.with _) env h fl0 env2 h2 e0 r σ H D S en ?_
      cases fl0 with
      | nx => cases e; exact p
      | rt d => cases e; exact p
      | ex kk =>
        dsimp only at e
        split at e
        · rename_i hc
          obtain ⟨hc, hi, hij⟩ := hc
          cases e
          intro σ' r' H' S' x' en'
          refine ⟨k.exm _ _ _ hc, fun a oe na hz hf => ?_⟩
          refine ⟨.ref a, List.getElem?_set_self (by rw [en'.len]; exact hi), ?_⟩
          have xx := Free.ext (K := c.K) (r := r') (n := h'.next) (u := .frz oe xT) (.inl na)
          refine p _ r' (upd H' a (.frz oe xT)) (S'.grow na) (x'.trans xx) ?_
          have e2 : (env2.set j (some (.xob kk))).set i none = ((env2.set i none).set j (some (.xob kk))).set i none := by
            rw [List.set_comm _ _ hij, List.set_set]
          rw [e2]
          exact (((en'.ext xx).over i (.ref a)).set j (.xob kk upd_same hz hf)).unset i
        · cases e
  | .try_ b cn (some i) s => by
    intro c k env h fl env' h' e r σ H D S en p
    simp only [ex] at e
    cases e0 : ex c.P cl b env h with
    | none => rw [e0] at e; cases e
    | some o =>
      obtain ⟨fl0, env2, h2⟩ := o
      rw [e0] at e
      show rdS (c.with (wAs c.K (.ref (ca c.K cn)) i (fun a cls d D σ H => ∃ k, cls = .ref (ca c.K k) ∧ rdS (c.exc k a cls d) s D σ H) c.W D)) b D σ H
      refine sS cl b (c.with (wAs c.K (.ref (ca c.K cn)) i (fun a cls d D σ H => ∃ k, cls = .ref (ca c.K k) ∧ rdS (c.exc k a cls d) s D σ H) c.W D)) (k.with _) env h fl0 env2 h2 e0 r σ H D S en ?_
      cases fl0 with
      | nx => cases e; exact p
      | rt d => cases e; exact p
      | ex kk =>
        dsimp only at e
        cases eb : c.P.exm kk cn with
        | none => rw [eb] at e; cases e
        | some bb =>
          rw [eb] at e
          have eo := k.exm _ _ _ eb
          intro σ' r' H' S' x' en'
          cases bb with
          | false =>
            cases e
            exact ⟨false, eo, (fun z => nomatch z), fun _ => p σ' r' H' S' x' en'⟩
          | true =>
            refine ⟨true, eo, fun _ a na => ⟨kk, rfl, ?_⟩, fun z => nomatch z⟩
            have ea := oneA_of e a
            unfold emptied at ea
            have p' := p.later x'
            cases e1 : ex { c.P with xk := some (kk, a) } cl s (env2.set i (some (.exc kk a))) h2 with
            | none => rw [e1] at ea; cases ea
            | some o1 =>
              obtain ⟨fl1, env3, h3⟩ := o1
              rw [e1] at ea
              cases fl1 with
              | nx =>
                cases ea
                exact sS cl s (c.exc kk a (.ref (ca c.K kk)) none) (k.exc kk a) (env2.set i (some (.exc kk a))) h2 .nx _ _ e1 r' (σ'.set i (some (.ref a))) H' _ S' (en'.set i (.exc kk a)) fun σ6 r6 H6 S6 x6 en6 => p' _ r6 H6 S6 x6 (en6.unset i)
              | rt d =>
                cases ea
                exact sS cl s (c.exc kk a (.ref (ca c.K kk)) none) (k.exc kk a) (env2.set i (some (.exc kk a))) h2 (.rt d) _ _ e1 r' (σ'.set i (some (.ref a))) H' _ S' (en'.set i (.exc kk a)) p'
              | ex k2 => cases ea
  | .par i j es => by
    intro c k env h fl env' h' e r σ H D S en p
    simp only [ex] at e
    refine t1A k e S en p fun vs h1 us r1 H1 e1 S1 x1 q1 en1 p1 => ?_
    split at e1
    · rename_i x y
      obtain ⟨v, w, rfl, qv, qw⟩ := two_of q1
      cases e1
      exact ⟨v, w, rfl, p1 _ r1 H1 S1 Ext.refl ((en1.set i qv).set j qw)⟩
    · cases e1
  | .dputT o es a => by
    intro c k env h fl env' h' e r σ H D S en p
    simp only [ex] at e
    refine t1 k e S en p fun x h1 v r1 H1 e1 S1 x1 q1 en1 p1 => t1 k e1 S1 en1 p1 fun y h2 w r2 H2 e2 S2 x2 q2 en2 p2 => t1A k e2 S2 en2 p2 fun ks h3 us r3 H3 e3 S3 x3 q3 en3 p3 => ?_
    have q2' := q2.ext x3
    cases q2' with
    | @ref a0 la =>
      simp only at e3
      split at e3
      · rename_i hl
        split at e3
        · rename_i h4 hp
          cases e3
          refine ⟨by rw [q3.len]; exact lim_le hl, fun q nq => ?_⟩
          have xq := (Free.ext (K := c.K) (r := r3) (n := h3.next) (u := .tup us) (.inl nq))
          have S4 := S3.grow (u := .tup us) nq
          obtain ⟨H5, g, S5, x5⟩ := dputT_of (b := q) S4 (q3.ext xq) upd_same ((q1.ext (x2.trans x3)).ext xq) hp
          exact ⟨_, H5, rfl, g, p3 σ r3 H5 S5 (xq.trans x5) (en3.ext (xq.trans x5))⟩
        · cases e3
      · cases e3
    | _ => cases e3
  | .lck i b => by
    intro c k env h fl env' h' e r σ H D S en p
    simp only [ex] at e
    split at e
    · rename_i a0 ha0
      split at e
      · rename_i o ho
        split at e
        · rename_i o' hl
          have f : Free H (r a0) := S.free ho (by cases o <;> first | rfl | cases hl)
          obtain ⟨u, h1, m, L⟩ := S.lock ho hl
          refine ⟨r a0, u, h1, (dct_mut m).2, fun od => ?_⟩
          obtain ⟨S1, L2⟩ := L od
          split at e
          · rename_i env2 h2 e1
            split at e
            · rename_i hf
              cases e
              refine sS cl b c k env _ _ _ _ e1 r σ _ _ S1 (en.ext f.ext) ?_
              intro σ' r2 H2 S2 x2 en2
              obtain ⟨er, hd, S3, x3, x4⟩ := L2 r2 h2 H2 S2 x2 hf
              exact ⟨hd, p σ' r2 _ S3 x3 (en2.ext0 x4)⟩
            · cases e
          · rename_i d env2 h2 e1
            split at e
            · rename_i hf
              cases e
              refine sS cl b c k env _ _ _ _ e1 r σ _ _ S1 (en.ext f.ext) ?_
              intro v r2 H2 S2 x2 q2
              obtain ⟨er, hd, S3, x3, x4⟩ := L2 r2 h2 H2 S2 x2 hf
              exact ⟨hd, p v r2 _ S3 x3 (q2.ext0 x4)⟩
            · cases e
          · cases e
        · cases e
      · cases e
    · cases e

/-! ### defs -/
/-- a def's promise: what n calls deep its run gives -/
def spR (P : Prog) (K : PySem.W.Frag) (n : Nat) (f : String) : Sp := fun vs H Q E => ∃ F r h ds res h', P.fn f = some F ∧ ds.length = F.np ∧ Sim K r h H ∧ RepL K r h.next H vs ds ∧ callF P n f ds h = some (res, h') ∧ PG K E r h H (RepV K) Q res h'
theorem spR_len {P : Prog} {K : PySem.W.Frag} {n : Nat} {f : String} {F : Fn} {vs : List V} {H : Hp} {Q : VK} {E : XK} (hf : P.fn f = some F) (h : spR P K n f vs H Q E) : vs.length = F.np := by
  obtain ⟨F', r, h, ds, res, h', e1, e2, _, q, _⟩ := h
  rw [hf] at e1
  cases e1
  rw [q.len, e2]
theorem callF_np {P : Prog} {n : Nat} {f : String} {ds : List D} {h h' : Hm} {res : Except String D} (e : callF P n f ds h = some (res, h')) : ∃ F, P.fn f = some F ∧ ds.length = F.np := by
  cases n with
  | zero => cases e
  | succ n =>
    simp only [callF] at e
    split at e
    · cases e
    · rename_i F hF
      split at e
      · rename_i hl
        exact ⟨F, hF, hl⟩
      · cases e
/-- the constants and the attributes, as the written part has them -/
structure Facts (P : Prog) (K : PySem.W.Frag) (gv : String → V) : Prop where
  con : ∀ x d, P.glob x = some d → ∀ r n H, RepV K r n H (gv x) d
  tup : ∀ x xs, P.glob x = some (.tup xs) → ∀ H, tyV K "tuple" (gv x) H
  fld : ∀ cn f, P.fld cn f = true → Cls K (ca K cn) ∧ NoAttr K (ca K cn) (Str.ofString f)
  sub : ∀ cn cm b, P.sub cn cm = some b → IsC K (ca K cn) (ca K cm) b
  exm : ∀ k cm b, P.exm k cm = some b → PySem.W.exmOne K (.ref (ca K k)) (.ref (ca K cm)) = some b
  exs : ∀ k cm b, P.exs k cm = some b → ExcC K (ca K k) ∧ PySem.W.kitOne K (.ref (ca K k)) (.ref (ca K cm)) = some b
  exb : ∀ k cm b, P.exb k cm = some b → ExcC K (ca K k) ∧ PySem.W.kitOne K (.ref (ca K k)) (.type cm) = some b
  nox : P.xk = none
def rc (P : Prog) (K : PySem.W.Frag) (gv : String → V) (n : Nat) (W : WX) : RC := { K := K, P := P, sp := spR P K n, gv := gv, W := W }
theorem rc_ok {P : Prog} {K : PySem.W.Frag} {gv : String → V} (F : Facts P K gv) (n : Nat) (W : WX) : RCok (rc P K gv n W) (callF P n) :=
  ⟨fun f ds h res h' e r H vs Q E S q p => by
    obtain ⟨F, h1, h2⟩ := callF_np e
    exact ⟨F, r, h, ds, res, h', h1, h2, S, q, e, p⟩, F.con, F.tup, F.fld, F.sub, F.exm, F.exs, F.exb, fun k a e => by rw [show (rc P K gv n W).P.xk = P.xk from rfl, F.nox] at e; cases e⟩
/-- a def's body, read -/
theorem body_ok {P : Prog} {K : PySem.W.Frag} {gv : String → V} (Fa : Facts P K gv) {n : Nat} {f : String} {F : Fn} (hf : P.fn f = some F) {N : List Str} (hN : N.length = F.ns) {vs : List V} {H : Hp} {Q : VK} {E : XK} (h : spR P K (n + 1) f vs H Q E) :
    rdS (rc P K gv n fun cls d _ H => E cls d H) F.body { nx := fun _ H' => Q .non H', rt := Q } (L2.start N vs) H := by
  obtain ⟨F', r, h, ds, res, h', e1, e2, S, q, e, p⟩ := h
  rw [hf] at e1
  cases e1
  simp only [callF, hf, if_pos e2] at e
  cases hx : ex P (callF P n) F.body (start F.ns ds) h with
  | none => rw [hx] at e; cases e
  | some o =>
    obtain ⟨fl, env', h2⟩ := o
    rw [hx] at e
    refine sS (callF P n) F.body _ (rc_ok Fa n _) _ h fl env' h2 hx r _ H _ S (EnvR.start q hN) ?_
    cases fl with
    | nx =>
      cases e
      exact fun σ' r' H' S' x' _ => p .non r' H' S' x' .non
    | rt d =>
      cases e
      exact p
    | ex kk =>
      cases e
      exact fun σ' r' H' S' x' _ => p r' H' S' x'
end Z

set_option maxRecDepth 100000
set_option maxHeartbeats 2000000
/-! ZL: rules in the form in which bodies are read. -/
namespace Z
open PySem PySem.Spec PyProof.Rows L2

/-! ### calls of own defs -/
/-- no error leaves, and none comes -/
theorem zpL {X : Cx} : ∀ σ, PassesAt (L2.CX X.prog X.w) X σ (fun cls d H => noW cls d σ H) := fun σ pins H s e s' _ h => by
  obtain ⟨_, _, _, _, _, _, _, _, _, _, _, _, z⟩ := h
  exact z.elim
theorem zpD {P : Program} {w : World} {K : PySem.W.Frag} {mg : Str → Option Value} {base : Heap} {N : List Str} {qual : Str} {scope : Scope} {f : Addr} {cd : Value} {A : Around} {outer : List PySem.Env} {s : Shared} {H : Hp} {E : XK} :
    ∀ σ, PassesAt (L2.CX P w) (cxOf (L2.CX P w) P w K mg base N qual scope f cd A outer s H E) σ (fun cls d H' => (fun (cls : Value) (d : Option Addr) (_ : L2.St) (H : Hp) => E cls d H) cls d σ H') :=
  fun σ => passAt (X := cxOf (L2.CX P w) P w K mg base N qual scope f cd A outer s H E) (takes_of rfl rfl rfl rfl) σ
theorem zoD {P : Program} {w : World} {K : PySem.W.Frag} {mg : Str → Option Value} {base : Heap} {N : List Str} {qual : Str} {scope : Scope} {f : Addr} {cd : Value} {A : Around} {outer : List PySem.Env} {s : Shared} {H : Hp} {E : XK} {X : Cx}
    (hX : X = cxOf (L2.CX P w) P w K mg base N qual scope f cd A outer s H E := by rfl) : PassesOwn (model X.prog X.w) X.A X.env X.xe := by
  subst hX
  exact passes_of rfl
section
variable {X : Cx} {CX : CXT} {k : Nat} {f : Addr} {fd : FuncData} {ps : List Str} {dvs : List V} {sp : Sp} {E : L2.St → XK} {x m : Str} {p pos apos : Pos} {e o : Expr} {es : List Expr} {ta : TE} {t : TA}
/-- a def of the program, as calls need it -/
structure Cal (P : Program) (w : World) (K : PySem.W.Frag) (mg : Str → Option Value) (base : Heap) (CX : CXT) (k : Nat) (f : Addr) (ps : List Str) (dvs : List V) (sp : Sp) : Prop where
  ex : ∃ fd ds, FnOk P w K mg base CX k f fd ps sp ∧ Vals dvs ds ∧ Binds K fd ps ds
  kp : PySem.W.keepIn K (.ref f) = true
theorem run_z {pins : List (Addr × Obj)} {σ : L2.St} {H : Hp} {s : Shared} {Q : VK} {us : List Value} {vs : List V} (C : Cal X.prog X.w X.K X.mg X.base CX k f ps dvs sp) (hr : Room k X.A) (hx : PassesAt CX X σ (E σ)) (I : Inv X pins σ H s) (r : Vals vs us) (h : sp (vs ++ dvs) H Q (E σ)) :
    wpAny (model X.prog X.w) X.A (call (.ref f) us) (EP X pins σ Q) X.xe s := by
  obtain ⟨fd, ds, F, hd, hb⟩ := C.ex
  have r2 : Vals (vs ++ dvs) (us ++ ds) := Vals.append r hd
  have len : (us ++ ds).length = ps.length := r2.length.symm.trans (F.len _ _ _ _ h)
  have run := F.run X.A X.stack s H ⟨us, []⟩ (us ++ ds) (vs ++ dvs) Q (E σ) hr I.env0 (hb s us I.kIn len) r2 h
  refine wpAny_call (codeAny_mono run fun res s' hq => ?_)
  match res, hq with
  | .error e, hq => exact hx pins H s e s' I hq
  | .ok (.ret u), hq => exact I.after hq
theorem zcall (C : Cal X.prog X.w X.K X.mg X.base CX k f ps dvs sp) (hr : Room k X.A) (hg : Gl X x) (hm : X.mg x = some (.ref f)) (hx : ∀ σ, PassesAt CX X σ (E σ)) (ha : PA X (e :: es) t) (hdb : (x == ("__debug__" : Str)) = false := by decide)
    (he : starEach (e :: es) X.env = (false, eval e X.env) :: starEach es X.env := by rfl) (hpl : (backTo pos (starEach es X.env)).any (·.1) = false := by rfl) :
    PE X (.Call (.Name x p) (e :: es) [] pos) (fun σ H Q => t σ H fun vs H1 => sp (vs ++ dvs) H1 Q (E σ)) :=
  ⟨fun pins s σ H Q I h => wpAny_Call_Name_kw (ld_glob I hg hm (PySem.W.callWith_K (h₀ := X.base) I.ok.mod.kin C.kp
    (thn (ha.run pos pins s σ H _ I h) fun us s1 ⟨vs, H1, I1, r, q⟩ => ⟨I1.kIn, run_z C hr (hx σ) I1 r q⟩) he hpl) hdb)⟩
theorem zcall0 (C : Cal X.prog X.w X.K X.mg X.base CX k f ps dvs sp) (hr : Room k X.A) (hg : Gl X x) (hm : X.mg x = some (.ref f)) (hx : ∀ σ, PassesAt CX X σ (E σ)) (hdb : (x == ("__debug__" : Str)) = false := by decide) :
    PE X (.Call (.Name x p) [] [] pos) (fun σ H Q => tNil σ H fun vs H1 => sp (vs ++ dvs) H1 Q (E σ)) :=
  ⟨fun pins s σ H Q I h => wpAny_Call_Name_kw (ld_glob I hg hm (PySem.W.callWith_K0 I.kIn C.kp (run_z (us := []) (vs := []) C hr (hx σ) I .nil h)) hdb)⟩
/-- a method's name: every class that the program has it in -/
structure Mets (Pg : Program) (w : World) (K : PySem.W.Frag) (mg : Str → Option Value) (base : Heap) (CX : CXT) (k : Nat) (P : Prog) (m : String) (dvs : List V) (sp : String → Sp) : Prop where
  ex : ∀ cn f, P.mt cn m = some f → Cls K (ca K cn) ∧ ∃ g ps, Meth K (ca K cn) (Str.ofString m) g ∧ Cal Pg w K mg base CX k g ps dvs (sp f)
/-- a class that is made -/
structure Mkr (Pg : Program) (w : World) (K : PySem.W.Frag) (mg : Str → Option Value) (base : Heap) (CX : CXT) (k : Nat) (P : Prog) (cn : String) (sp : String → Sp) : Prop where
  ex : ∃ f g ps, P.mt cn "__init__" = some f ∧ Mk K (ca K cn) g ∧ Cal Pg w K mg base CX k g ps [] (sp f)
theorem zmeth {P : Prog} {m : String} {sp : String → Sp} {pl : Sem Bool} (ho : PE X o ta) (M : Mets X.prog X.w X.K X.mg X.base CX k P m dvs sp) (hr : Room k X.A) (hx : ∀ σ, PassesAt CX X σ (E σ)) (ha : PA X (e :: es) t)
    (hst : starEach (e :: es) X.env = (false, eval e X.env) :: starEach es X.env := by rfl) (hpl : (backTo pos (starEach es X.env)).any (·.1) = false := by rfl)
    (ht : eval (.Call (.Attribute o (Str.ofString m) apos) (e :: es) [] pos) X.env = (do
      let ov ← eval o X.env
      standAt apos.atName
      let (f, first) ← holding [ov] (getMethod ov (Str.ofString m) pl)
      callWith pos f first (backTo pos (starEach (e :: es) X.env)) (backToKw pos (keywordEach [] X.env))) := by rfl) :
    PE X (.Call (.Attribute o (Str.ofString m) apos) (e :: es) [] pos) (fun σ H Q => ta σ H fun x H1 => ∃ a dx fs cn f, x = .ref a ∧ H1 a = some (.ins (ca X.K cn) dx fs) ∧ P.mt cn m = some f ∧ fs.lookup (Str.ofString m) = none ∧
      t σ H1 fun vs H2 => sp f (x :: (vs ++ dvs)) H2 Q (E σ)) := by
  refine ⟨fun pins s σ H Q I h => PySem.W.methodCall_KW (pl := pl) (thn (ho.run pins s σ H _ I h) fun u s1 ⟨x, H1, I1, rx, q⟩ => ?_) ht⟩
  obtain ⟨a, dx, fs, cn, f, ex, ea, em, l, q⟩ := q
  subst ex
  cases (show u = Value.ref a from rx)
  obtain ⟨c, g, ps, hm, C⟩ := M.ex cn f em
  refine getmeth_ok I1 ea c hm l (PySem.W.callWith_K (first := [.ref a]) (h₀ := X.base) I.ok.mod.kin hm.kp (thn (ha.run pos pins s1 σ H1 _ I1 q) fun us s2 ⟨vs, H2, I2, r, q2⟩ => ⟨I2.kIn, ?_⟩) hst hpl)
  exact run_z (us := .ref a :: us) (vs := .ref a :: vs) C hr (hx σ) I2 (.cons rfl r) q2
theorem zmeth0 {P : Prog} {m : String} {sp : String → Sp} {pl : Sem Bool} (ho : PE X o ta) (M : Mets X.prog X.w X.K X.mg X.base CX k P m dvs sp) (hr : Room k X.A) (hx : ∀ σ, PassesAt CX X σ (E σ))
    (ht : eval (.Call (.Attribute o (Str.ofString m) apos) [] [] pos) X.env = (do
      let ov ← eval o X.env
      standAt apos.atName
      let (f, first) ← holding [ov] (getMethod ov (Str.ofString m) pl)
      callWith pos f first (backTo pos (starEach [] X.env)) (backToKw pos (keywordEach [] X.env))) := by rfl) :
    PE X (.Call (.Attribute o (Str.ofString m) apos) [] [] pos) (fun σ H Q => ta σ H fun x H1 => ∃ a dx fs cn f, x = .ref a ∧ H1 a = some (.ins (ca X.K cn) dx fs) ∧ P.mt cn m = some f ∧ fs.lookup (Str.ofString m) = none ∧
      tNil σ H1 fun vs H2 => sp f (x :: (vs ++ dvs)) H2 Q (E σ)) := by
  refine ⟨fun pins s σ H Q I h => PySem.W.methodCall_KW (pl := pl) (thn (ho.run pins s σ H _ I h) fun u s1 ⟨x, H1, I1, rx, q⟩ => ?_) ht⟩
  obtain ⟨a, dx, fs, cn, f, ex, ea, em, l, q⟩ := q
  subst ex
  cases (show u = Value.ref a from rx)
  obtain ⟨c, g, ps, hm, C⟩ := M.ex cn f em
  exact getmeth_ok I1 ea c hm l (PySem.W.callWith_K0 (first := [.ref a]) I1.kIn hm.kp (run_z (us := [.ref a]) (vs := [.ref a]) C hr (hx σ) I1 (.cons rfl .nil) q))
theorem run_mk {P : Prog} {cn : String} {sp : String → Sp} {pins : List (Addr × Obj)} {σ : L2.St} {H : Hp} {s : Shared} {Q : VK} {us : List Value} {vs : List V} (M : Mkr X.prog X.w X.K X.mg X.base CX k P cn sp) (hr : Room (k + 1) X.A) (hx : PassesAt CX X σ (E σ)) (I : Inv X pins σ H s) (r : Vals vs us)
    (h : ∀ x dx, H x = none → H dx = none → dx ≠ x → ∃ f, P.mt cn "__init__" = some f ∧ sp f (.ref x :: vs) (upd (upd H dx (.own x)) x (.ins (ca X.K cn) dx [])) (fun v H2 => v = .non ∧ Q (.ref x) H2) (E σ)) :
    wpAny (model X.prog X.w) X.A (call (.ref (ca X.K cn)) us) (EP X pins σ Q) X.xe s := by
  obtain ⟨f, g, ps, hf, M, C⟩ := M.ex
  obtain ⟨fd, ds, F, hd, hb⟩ := C.ex
  obtain ⟨f', hf', hq⟩ := h (s.heap.objs.size + 1) s.heap.objs.size (I.hok.fresh (Nat.le_succ _)) (I.hok.fresh (Nat.le_refl _)) (Nat.ne_of_lt (Nat.lt_succ_self _))
  rw [hf] at hf'
  cases hf'
  have I2 := Inv.made (C := ca X.K cn) I
  cases hd
  have r2 : Vals (V.ref (s.heap.objs.size + 1) :: vs) (Value.ref (s.heap.objs.size + 1) :: us) := .cons rfl r
  have hl : (Value.ref (s.heap.objs.size + 1) :: us ++ []).length = ps.length := by
    have e := r2.length
    rw [F.len _ _ _ _ hq] at e
    rw [List.append_nil]
    exact e.symm
  have hbb := hb _ (Value.ref (s.heap.objs.size + 1) :: us) I2.kIn hl
  rw [List.append_nil] at hbb
  refine wpAny_call (make_map (f := g) I.kIn M.makes M.init (beq_iff_eq.mp M.fn) (codeAny_mono (F.run _ X.stack _ _ ⟨Value.ref (s.heap.objs.size + 1) :: us, []⟩ (Value.ref (s.heap.objs.size + 1) :: us) _ _ (E σ) (hr.make (ca X.K cn) us [])
    (I2.env0.make (ca X.K cn) us []) hbb r2 hq) fun r s' hq' => ?_))
  cases r with
  | error e => exact hx pins _ _ e s' I2 hq'
  | ok fl =>
    cases fl with
    | ret u =>
      obtain ⟨v, H', I3, rv, ev, q3⟩ := I2.after hq'
      subst ev
      exact ⟨rv, ⟨V.ref (s.heap.objs.size + 1), H', I3, rfl, q3⟩⟩
    | next => exact False.elim hq'
    | brk => exact False.elim hq'
    | cont => exact False.elim hq'
theorem zmake {P : Prog} {cn : String} {sp : String → Sp} (M : Mkr X.prog X.w X.K X.mg X.base CX k P cn sp) (hr : Room (k + 1) X.A) (hg : Gl X x) (hm : X.mg x = some (.ref (ca X.K cn))) (hx : ∀ σ, PassesAt CX X σ (E σ)) (ha : PA X (e :: es) t) (hdb : (x == ("__debug__" : Str)) = false := by decide)
    (he : starEach (e :: es) X.env = (false, eval e X.env) :: starEach es X.env := by rfl) (hpl : (backTo pos (starEach es X.env)).any (·.1) = false := by rfl) :
    PE X (.Call (.Name x p) (e :: es) [] pos) (fun σ H Q => t σ H fun vs H1 => ∀ x dx, H1 x = none → H1 dx = none → dx ≠ x → ∃ f, P.mt cn "__init__" = some f ∧ sp f (.ref x :: vs) (upd (upd H1 dx (.own x)) x (.ins (ca X.K cn) dx [])) (fun v H2 => v = .non ∧ Q (.ref x) H2) (E σ)) := by
  refine ⟨fun pins s σ H Q I h => wpAny_Call_Name_kw (ld_glob I hg hm ?_ hdb)⟩
  obtain ⟨_, _, _, _, M1, _⟩ := M.ex
  exact PySem.W.callWith_K (h₀ := X.base) I.ok.mod.kin M1.kp (thn (ha.run pos pins s σ H _ I h) fun us s1 ⟨vs, H1, I1, r, q⟩ => ⟨I1.kIn, run_mk M hr (hx σ) I1 r q⟩) he hpl
theorem zmake0 {P : Prog} {cn : String} {sp : String → Sp} (M : Mkr X.prog X.w X.K X.mg X.base CX k P cn sp) (hr : Room (k + 1) X.A) (hg : Gl X x) (hm : X.mg x = some (.ref (ca X.K cn))) (hx : ∀ σ, PassesAt CX X σ (E σ)) (hdb : (x == ("__debug__" : Str)) = false := by decide) :
    PE X (.Call (.Name x p) [] [] pos) (fun σ H Q => tNil σ H fun vs H1 => ∀ x dx, H1 x = none → H1 dx = none → dx ≠ x → ∃ f, P.mt cn "__init__" = some f ∧ sp f (.ref x :: vs) (upd (upd H1 dx (.own x)) x (.ins (ca X.K cn) dx [])) (fun v H2 => v = .non ∧ Q (.ref x) H2) (E σ)) := by
  refine ⟨fun pins s σ H Q I h => wpAny_Call_Name_kw (ld_glob I hg hm ?_ hdb)⟩
  obtain ⟨_, _, _, _, M1, _⟩ := M.ex
  exact PySem.W.callWith_K0 I.kIn M1.kp (run_mk (us := []) (vs := []) M hr (hx σ) I .nil h)
end

/-! ### a class without own __init__ -/
section
variable {X : Cx} {C : Addr} {x : Str} {p pos : Pos}
structure Mk0 (K : PySem.W.Frag) (C : Addr) : Prop where
  makes : PySem.W.makesIn K C = true
  init : PySem.W.findIn K (.ref C) "__init__" = some (some (.builtin "object.__init__"))
  kp : PySem.W.keepIn K (.ref C) = true
  top : PySem.W.mroIn K C (.type "object") = some true
def mk0B (K : PySem.W.Frag) (x : Str) : Bool := PySem.W.makesIn K (He.ga K x) && (He.eqO (PySem.W.findIn K (.ref (He.ga K x)) "__init__") (some (some (.builtin "object.__init__"))) && (PySem.W.keepIn K (.ref (He.ga K x)) && decide (PySem.W.mroIn K (He.ga K x) (.type "object") = some true)))
theorem mk0_ok {K : PySem.W.Frag} {x : Str} (h : mk0B K x = true) : Mk0 K (He.ga K x) := by
  obtain ⟨h1, h⟩ := He.ba h
  obtain ⟨h2, h⟩ := He.ba h
  obtain ⟨h3, h4⟩ := He.ba h
  exact ⟨h1, He.eqO_ok h2, h3, of_decide_eq_true h4⟩
theorem run_mk0 {pins : List (Addr × Obj)} {σ : L2.St} {H : Hp} {s : Shared} {Q : VK} (M : Mk0 X.K C) (I : Inv X pins σ H s)
    (h : ∀ x dx, H x = none → H dx = none → dx ≠ x → Q (.ref x) (upd (upd H dx (.own x)) x (.ins C dx []))) :
    wpAny (model X.prog X.w) X.A (call (.ref C) []) (EP X pins σ Q) X.xe s := by
  have q := h (s.heap.objs.size + 1) s.heap.objs.size (I.hok.fresh (Nat.le_succ _)) (I.hok.fresh (Nat.le_refl _)) (Nat.ne_of_lt (Nat.lt_succ_self _))
  have I2 := Inv.made (C := C) I
  obtain ⟨_, _, _, ho, _⟩ := I2.hok _ _ upd_same
  have t1 : PySem.W.Looks (model X.prog X.w) ((s.heap.push PySem.W.emptyDict).push (PySem.W.instObj C s.heap.objs.size)) (typeOf (.ref (s.heap.objs.size + 1))) (.ref C) := NwA.type_at ho rfl
  have t2 : PySem.W.Looks (model X.prog X.w) ((s.heap.push PySem.W.emptyDict).push (PySem.W.instObj C s.heap.objs.size)) (isInstance (.ref (s.heap.objs.size + 1)) (.type "object")) true := t1.andThen (PySem.W.looks_mroIn I2.kIn M.top)
  refine wpAny_call (make_map0 I.kIn M.makes M.init (fun self => PySem.W.Looks.of_pure (PySem.W.oi_bind _)) (codeAny_call_builtin PySem.W.oi_plain PySem.W.entry_oi (@PySem.W.check_slot (model X.prog X.w) _ _ _ "object.__init__" "object" "__init__" (.ref (s.heap.objs.size + 1)) [] [] _ PySem.W.oi_kind PySem.W.oi_split t2 (NwA.oi_args_any (.ref (s.heap.objs.size + 1)) [] []) ?_)))
  rw [PySem.W.oi_run]
  exact wpAny_pure (And.intro rfl ⟨V.ref (s.heap.objs.size + 1), _, I2, rfl, q⟩)
theorem zmk0 (M : Mk0 X.K C) (hg : Gl X x) (hm : X.mg x = some (.ref C)) (hdb : (x == ("__debug__" : Str)) = false := by decide) :
    PE X (.Call (.Name x p) [] [] pos) (fun σ H Q => ∀ x dx, H x = none → H dx = none → dx ≠ x → Q (.ref x) (upd (upd H dx (.own x)) x (.ins C dx []))) := by
  refine ⟨fun pins s σ H Q I h => wpAny_Call_Name_kw (ld_glob I hg hm ?_ hdb)⟩
  exact PySem.W.callWith_K0 I.kIn M.kp (run_mk0 M I h)
def iscB (K : PySem.W.Frag) (x y : Str) (b : Bool) : Bool := (He.Fa.cls x).ok K && (He.eqO (PySem.W.findIn K (.ref (He.ga K x)) "__class__") (some (some (.builtin "object.__class__"))) && (He.eqO (PySem.W.specialIn K (.builtin "object.__class__") "__get__") (some (some (.builtin "getset_descriptor.__get__"))) &&
  (decide (PySem.W.takesIn K (.builtin "object.__class__") = some true) && (decide (PySem.W.mroIn K (He.ga K x) (.type "object") = some true) && decide (PySem.W.kitOne K (.ref (He.ga K x)) (.ref (He.ga K y)) = some b)))))
theorem isc_ok {K : PySem.W.Frag} {x y : Str} {b : Bool} (h : iscB K x y b = true) : IsC K (He.ga K x) (He.ga K y) b := by
  obtain ⟨h1, h⟩ := He.ba h
  obtain ⟨h2, h⟩ := He.ba h
  obtain ⟨h3, h⟩ := He.ba h
  obtain ⟨h4, h⟩ := He.ba h
  obtain ⟨h5, h6⟩ := He.ba h
  exact ⟨He.cls_ok h1, He.eqO_ok h2, He.eqO_ok h3, of_decide_eq_true h4, of_decide_eq_true h5, of_decide_eq_true h6⟩
end

/-! ### list(reversed(list)) -/
open RT
section
variable {prog : Program} {w : World} {A : Around} {s : Shared} {R : Result → Shared → Prop}
theorem extend_rev {it l S : Addr} {items : Array Value} (res : Value) (hh : A.handled = none) (hit : s.heap.IsRevIter it l ((items.size : Int) - 1)) (hl : s.heap.IsList l items) (hne : l ≠ it) (hSi : S ≠ it) (hSl : S ≠ l) (hn : items.size ≤ sizeLine) {c₀ : Nat}
    (hS : s.heap.get? S = some { cls := .type "list", data := .seq #[] c₀ })
    (hR : ∀ (h' : Heap) (tk : Nat) (acc : Array Value) (c' : Nat), (∀ b o, b ≠ it → b ≠ S → s.heap.get? b = some o → h'.get? b = some o) → h'.get? S = some { cls := .type "list", dict := none, data := .seq acc c', slots := #[] } → ItemsOf (fun i v => items[items.size - 1 - i]? = some v) acc items.size → R (.ok (.ret res)) { s with heap := h', toks := tk }) :
    wpAny (model prog w) A.in1 (Builtin.List.listExtendWith (.ref S) (.ref it) res)
      (fun fin s' => match fin with | .done f => R (.ok f) s' | .again c' => c'.quiet = true ∧ codeAny (model prog w) A c' R s') (fun e s' => R (.error e) s') s := by
  have W := (Walks.listRev (prog := prog) (w := w) (A := A.in1) hh it l hne items).toS
  have hSf : S ∉ [it, l] := by simp only [List.mem_cons, List.not_mem_nil, or_false, not_or]; exact ⟨hSi, hSl⟩
  have hT : s.TypeIs (.ref it) "list_reverseiterator" := Heap.IsRevIter.typeIs (s := s) hit
  have h1 : Builtin.List.listSameRef (.ref S) (.ref it) = false := by simp [Builtin.List.listSameRef, hSi]
  unfold Builtin.List.listExtendWith
  refine wpAny_bind (wpAny_typeOf hT ?_)
  rw [if_neg (by rw [h1]; decide)]
  refine wpAny_bind (wpAny_pyIter_revIter (s := s) hit ?_)
  refine wpAny_bind (wpAny_holding ?_)
  unfold Builtin.List.listLengthHint
  refine wpAny_bind (wpAny_specialOf hT nolen_lri ?_)
  show wpAny _ A.in1 (specialOf (Value.ref it) (Str.ofString "__length_hint__") >>= _) _ _ _
  refine wpAny_bind (wpAny_specialOf hT hint_lri ?_)
  generalize hid : ("list_reverseiterator.__length_hint__" : String) = id0
  wp_delta
  rw [show splitId id0 = some ("list_reverseiterator", "__length_hint__") from by subst hid; decide +kernel]
  subst hid
  refine wpAny_bind (wpAny_isInstance (b := true) hT (by rw [isSubtype_type]; kernel_rfl) ?_)
  refine wpAny_pure ?_
  rw [if_neg (by decide)]
  have e0 : ((items.size : Nat) : Int) - 1 - ((0 : Nat) : Int) = (items.size : Int) - 1 := by omega
  refine wpAny_pure ⟨plainId_quiet F.plain_extend_loop _, codeAny_extend_loopS W hn _ hSf _ items.size 0 _ _ _ rfl (Nat.zero_le _) ⟨Nat.zero_le _, by rw [e0]; exact hit, hl⟩ hS (ItemsOf.nil _) fun s' acc' c' hm hS' hacc => ?_⟩
  have e := Moved.eq_with hm
  rw [e]
  refine hR s'.heap s'.toks acc' c' (fun b o hb hb2 e => hm.heap b o (fun hmem => ?_) e) hS' hacc
  rcases List.mem_cons.mp hmem with e' | hmem
  · exact hb2 e'
  · exact hb (List.mem_singleton.mp hmem)
theorem list_init_rev {it l S : Addr} {items : Array Value} (hh : A.handled = none) (hit : s.heap.IsRevIter it l ((items.size : Int) - 1)) (hl : s.heap.IsList l items) (hne : l ≠ it) (hSi : S ≠ it) (hSl : S ≠ l) (hn : items.size ≤ sizeLine)
    (hS : s.heap.get? S = some { cls := .type "list", data := .seq #[] })
    (hR : ∀ (h' : Heap) (tk : Nat) (acc : Array Value) (c' : Nat), (∀ b o, b ≠ it → b ≠ S → s.heap.get? b = some o → h'.get? b = some o) → h'.get? S = some { cls := .type "list", dict := none, data := .seq acc c', slots := #[] } → ItemsOf (fun i v => items[items.size - 1 - i]? = some v) acc items.size → R (.ok (.ret .none)) { s with heap := h', toks := tk }) :
    wpAny (model prog w) A.in1 (Builtin.«list.__init__» ⟨[.ref S, .ref it], []⟩)
      (fun fin s' => match fin with | .done f => R (.ok f) s' | .again c' => c'.quiet = true ∧ codeAny (model prog w) A c' R s') (fun e s' => R (.error e) s') s := by
  show wpAny _ A.in1 (do let old ← Builtin.List.listItems (.ref S); Builtin.List.listUpdate (.ref S) (fun _ => #[]); letGo old.toList.reverse; Builtin.List.listExtendWith (.ref S) (.ref it) .none) _ _ s
  refine wpAny_bind ?_
  unfold Builtin.List.listItems
  refine wpAny_bind (wpAny_seqItems hS rfl (wpAny_pure ?_))
  show wpAny _ A.in1 (updateSeq S (fun _ => #[]) >>= fun _ => letGo (#[] : Array Value).toList.reverse >>= fun _ => Builtin.List.listExtendWith (.ref S) (.ref it) .none) _ _ s
  refine wpAny_bind (wpAny_updateSeq hS rfl ?_)
  have hS₂ := Heap.get?_update_self (Obj.mapSeq (fun _ => (#[] : Array Value))) hS rfl
  have oth : ∀ b o, b ≠ S → s.heap.get? b = some o → (s.heap.update S (Obj.mapSeq (fun _ => (#[] : Array Value)))).get? b = some o :=
    fun b o hb e => (Heap.get?_update_other _ _ (Ne.symm hb)).trans e
  refine wpAny_bind (wpAny_letGo ?_)
  obtain ⟨ol, hol, hr⟩ := id hl
  refine extend_rev (s := { s with heap := s.heap.update S (Obj.mapSeq (fun _ => (#[] : Array Value))) }) .none hh (hit.at fun o e => oth it o (Ne.symm hSi) e) ⟨ol, oth l ol (Ne.symm hSl) hol, hr⟩ hne hSi hSl hn hS₂ fun h' tk acc c' hk hS' hacc => ?_
  exact hR h' tk acc c' (fun b o hb hb2 e => hk b o hb hb2 (oth b o hb2 e)) hS' hacc
theorem call_list_rev {E : Value → Shared → Prop} {it l : Addr} {items : Array Value} {Q : Value → Shared → Prop} (hh : A.handled = none) (hit : s.heap.IsRevIter it l ((items.size : Int) - 1)) (hl : s.heap.IsList l items) (hne : l ≠ it) (hn : items.size ≤ sizeLine)
    (hQ : ∀ (h' : Heap) (tk : Nat) (acc : Array Value) (c' : Nat), (∀ b o, b ≠ it → s.heap.get? b = some o → h'.get? b = some o) → h'.get? s.heap.objs.size = some { cls := .type "list", dict := none, data := .seq acc c', slots := #[] } → ItemsOf (fun i v => items[items.size - 1 - i]? = some v) acc items.size →
      Q (.ref s.heap.objs.size) { s with heap := h', toks := tk }) :
    wpAny (model prog w) A (call (.type "list") [.ref it]) Q E s := by
  obtain ⟨oi, hoi, _⟩ := id hit
  obtain ⟨ol, hol, hr⟩ := id hl
  have hSi : s.heap.objs.size ≠ it := Nat.ne_of_gt (Heap.lt_size hoi)
  have hSl : s.heap.objs.size ≠ l := Nat.ne_of_gt (Heap.lt_size hol)
  refine callType_codes (Q₁ := fun obj s₁ => obj = .ref s.heap.objs.size ∧ s₁ = { s with heap := s.heap.push { cls := .type "list", data := .seq #[] } }) F.called_list (F.typeCall_list_1 _) F.entry_list_init
    (code_list_new _ ⟨rfl, rfl⟩) fun obj s₁ h₁ => ?_
  obtain ⟨rfl, rfl⟩ := h₁
  have hS : (s.heap.push { cls := .type "list", data := .seq #[] }).get? s.heap.objs.size = some { cls := .type "list", data := .seq #[] } := Heap.get?_push_size _ rfl
  refine ⟨⟨_, hS, rfl⟩, F.args_list_init_2 _ _, list_init_rev (s := { s with heap := s.heap.push { cls := .type "list", data := .seq #[] } }) hh (hit.at fun o e => Heap.get?_push_of_some _ e) ⟨ol, Heap.get?_push_of_some _ hol, hr⟩ hne hSi hSl hn hS fun h' tk acc c' hk hS' hacc => ?_⟩
  exact ⟨rfl, hQ h' tk acc c' (fun b o hb e => hk b o hb (Nat.ne_of_lt (Heap.lt_size e)) (Heap.get?_push_of_some _ e)) hS' hacc⟩
end
section
variable {X : Cx}
theorem pe_lstRev {e : Expr} {te : TE} {p p2 pos pos2 : Pos} (hc : X.calm = true) (hg : Gl X "list") (hm : X.mg "list" = none) (hg2 : Gl X "reversed") (hm2 : X.mg "reversed" = none) (he : PE X e te)
    (hs : starEach [e] X.env = (false, eval e X.env) :: starEach [] X.env := by rfl)
    (hs2 : starEach [.Call (.Name "reversed" p2) [e] [] pos2] X.env = (false, eval (.Call (.Name "reversed" p2) [e] [] pos2) X.env) :: starEach [] X.env := by rfl) :
    PE X (.Call (.Name "list" p) [.Call (.Name "reversed" p2) [e] [] pos2] [] pos) (tRevL X.K te) := by
  refine ⟨fun pins s σ H Q I h => ?_⟩
  refine Call_ (ld_blt I hg hm boot_list (PyProof.Rows.callWith_type1 (args_cons (Call_ (ld_blt I hg2 hm2 PyProof.Rows.boot_reversed (PyProof.Rows.callWith_type1 (args_cons (thn (he.run pins s σ H _ I h) fun u s1 ⟨v, H1, I1, r1, q1⟩ => args_nil ?_) hs) hs rfl))) hs2) hs2 rfl))
  obtain ⟨a, xs, ev, hq, q⟩ := q1
  subst ev
  obtain rfl : u = Value.ref a := r1
  obtain ⟨its, rv, p', hz⟩ := I1.list hq
  refine call_reversed_list p'.isList (args_nil ?_)
  have k0 : ∀ b o, s1.heap.get? b = some o → (s1.heap.push (revObj a ((its.toArray.size : Int) - 1))).get? b = some o := fun b o e => Heap.get?_push_of_some _ e
  have I2 : Inv X pins σ H1 { s1 with heap := s1.heap.push (revObj a ((its.toArray.size : Int) - 1)) } := I1.kept (t' := s1.toks) k0
  obtain ⟨f0, f1, f2, f3, f4, f5⟩ := I1.fpOk (H' := H1) (b := s1.heap.objs.size) (Nat.le_refl _) (I1.hok.fresh (Nat.le_refl _))
  have hl := p'.isList
  obtain ⟨ol, hol, _⟩ := id hl
  have hne : a ≠ s1.heap.objs.size := Nat.ne_of_lt (Heap.lt_size hol)
  have hn : its.toArray.size ≤ sizeLine := by rw [List.size_toArray, ← rv.length]; exact hz
  refine call_list_rev (s := { s1 with heap := s1.heap.push (revObj a ((its.toArray.size : Int) - 1)) }) (I1.ok.hd hc) ⟨_, Heap.get?_push_size _ rfl, rfl, rfl⟩ (hl.push _) hne hn fun h' tk acc c' hk hS hi => ?_
  have hi' : ObjOk X.prog X.w (upd H1 (s1.heap.push (revObj a ((its.toArray.size : Int) - 1))).objs.size (.lst xs.reverse)) h' (s1.heap.push (revObj a ((its.toArray.size : Int) - 1))).objs.size (.lst xs.reverse) :=
    ⟨by rw [List.length_reverse]; exact hz, acc.toList, c', vals_rev rv hi, by rw [Array.toArray_toList]; exact hS⟩
  have I3 := Inv.turnedNew (t' := tk) (ch := [s1.heap.objs.size]) I2 (fun b o hb e => hk b o (by simpa using hb) e) (fun b hb => by
    have hb' : b = s1.heap.objs.size := by simpa using hb
    rw [hb']
    exact I1.fpOk (H' := H1) (Nat.le_refl _) (I1.hok.fresh (Nat.le_refl _))) (Nat.le_refl _) hi'
  exact ⟨.ref _, _, I3, rfl, q _ (I2.hok.fresh (Nat.le_refl _))⟩
end
theorem ztry {X : Cx} {c : RC} {b s : S} {cn : String} {xn : Str} {body suite : List Stmt} {b₀ : Stmt} {np pos pos' : Pos} (hK : c.K = X.K) (tk : Takes X c.W) (hg : Gl X xn) (hm : X.mg xn = some (.ref (ca X.K cn)))
    (hb : ∀ (W : WX) (pn : List (Addr × Obj)) (xe : Value → Shared → Prop), Takes (X.tr pn xe) W → PassesOwn (model X.prog X.w) X.A X.env xe → PSs (X.tr pn xe) body (rdS (c.with W) b))
    (hsu : ∀ (a : Addr) (oe : Obj) (pn : List (Addr × Obj)), PSs (X.suite a ((a, oe) :: pn)) (b₀ :: suite) (rdS (c.with noW) s))
    (hs : X.stack = X.env :: X.outer := by rfl) (hf : X.env.frame = some X.env.locals := by rfl) (hd : (xn == ("__debug__" : Str)) = false := by decide) :
    PS X (.Try body [.ExceptHandler (some (.Name xn np)) none (b₀ :: suite) pos'] [] [] pos) (rdS c (.try_ b cn none s)) := by
  have h := ps_try_only (X := X) (tb := fun W => rdS (c.with W) b) (ts := fun _ _ _ => rdS (c.with noW) s) (pos := pos) (pos' := pos') (np := np) hs hf ⟨hg, hd, .inl hm⟩ tk hb (fun a oe cls d pn _ _ => hsu a oe pn)
  rw [← hK] at h
  exact h

theorem ztryAs {X : Cx} {c : RC} {b s : S} {cn : String} {i : Nat} {xn n : Str} {body suite : List Stmt} {b₀ : Stmt} {np pos pos' : Pos} (hK : c.K = X.K) (tk : Takes X c.W) (hN : X.N.Nodup) (hg : Gl X xn) (hm : X.mg xn = some (.ref (ca X.K cn)))
    (hb : ∀ (W : WX) (pn : List (Addr × Obj)) (xe : Value → Shared → Prop), Takes (X.tr pn xe) W → PassesOwn (model X.prog X.w) X.A X.env xe → PSs (X.tr pn xe) body (rdS (c.with W) b))
    (hsu : ∀ (a : Addr) (oe : Obj) (cls : Value) (d : Option Addr) (pn : List (Addr × Obj)) (kk : String), Zc cls d oe → (∃ vs, oe.data = .fields vs) → PSs (X.suite a ((a, oe) :: pn)) (b₀ :: suite) (rdS (c.exc kk a cls d) s))
    (hi : X.N[i]? = some n := by rfl) (hln : X.env.kindOf n = some .local := by rfl) (hs : X.stack = X.env :: X.outer := by rfl) (hf : X.env.frame = some X.env.locals := by rfl) (hd : (xn == ("__debug__" : Str)) = false := by decide) :
    PS X (.Try body [.ExceptHandler (some (.Name xn np)) (some n) (b₀ :: suite) pos'] [] [] pos) (rdS c (.try_ b cn (some i) s)) := by
  have h := ps_try_as (X := X) (i := i) (tb := fun W => rdS (c.with W) b) (ts := fun a cls d D σ H => ∃ k, cls = .ref (ca X.K k) ∧ rdS (c.exc k a cls d) s D σ H) (pos := pos) (pos' := pos') (np := np) hs hf hN hi hln ⟨hg, hd, .inl hm⟩ tk hb
    (fun a oe cls d pn hz hf => ⟨fun pins st σ H D I h => by obtain ⟨k, _, h⟩ := h; exact (hsu a oe cls d pn k hz hf).run pins st σ H D I h⟩)
  rw [← hK] at h
  exact h
theorem zkeep {X : Cx} {c : RC} {b : S} {cn : String} {i j : Nat} {xn n : Str} {body suite : List Stmt} {b₀ : Stmt} {np pos pos' : Pos} (hK : c.K = X.K) (hN : X.N.Nodup) (hg : Gl X xn) (hm : X.mg xn = some (.ref (ca X.K cn)))
    (hb : ∀ (W : WX) (pn : List (Addr × Obj)) (xe : Value → Shared → Prop), Takes (X.tr pn xe) W → PassesOwn (model X.prog X.w) X.A X.env xe → PSs (X.tr pn xe) body (rdS (c.with W) b))
    (hsu : ∀ (a : Addr) (oe : Obj) (pn : List (Addr × Obj)), PSs (X.suite a ((a, oe) :: pn)) (b₀ :: suite) (tAsg (tVar i) (gName j)))
    (hi : X.N[i]? = some n := by rfl) (hln : X.env.kindOf n = some .local := by rfl) (hs : X.stack = X.env :: X.outer := by rfl) (hf : X.env.frame = some X.env.locals := by rfl) (hx : X.ex = [] := by rfl) (hd : (xn == ("__debug__" : Str)) = false := by decide) :
    PS X (.Try body [.ExceptHandler (some (.Name xn np)) (some n) (b₀ :: suite) pos'] [] [] pos) (rdS c (.tryK b cn i j)) := by
  have h := Kept.ps_keep (X := X) (i := i) (tb := fun W => rdS (c.with W) b) (ts := fun _ => tAsg (tVar i) (gName j)) (pos := pos) (pos' := pos') (np := np) hs hf hN hi hln hg hm hd hx hb hsu
  rw [← hK] at h
  exact h
def excB (K : PySem.W.Frag) (x : Str) : Bool := He.eqO (PySem.W.findIn K (.ref (He.ga K x)) "__getattribute__") (some (some (.builtin "BaseException.__getattribute__"))) && (He.eqO (PySem.W.findIn K (.ref (He.ga K x)) "__getattr__") (some none) && (decide (PySem.W.subIn K (.ref (He.ga K x)) (.type "BaseException") = some true) && (PySem.W.hasDictIn K (He.ga K x) &&
  (He.eqO (PySem.W.findIn K (.ref (He.ga K x)) "__class__") (some (some (.builtin "object.__class__"))) && (He.eqO (PySem.W.specialIn K (.builtin "object.__class__") "__get__") (some (some (.builtin "getset_descriptor.__get__"))) && (decide (PySem.W.takesIn K (.builtin "object.__class__") = some true) && decide (PySem.W.mroIn K (He.ga K x) (.type "object") = some true)))))))
theorem excC_ok {K : PySem.W.Frag} {x : Str} (h : excB K x = true) : ExcC K (He.ga K x) := by
  obtain ⟨h1, h⟩ := He.ba h
  obtain ⟨h2, h⟩ := He.ba h
  obtain ⟨h3, h⟩ := He.ba h
  obtain ⟨h4, h⟩ := He.ba h
  obtain ⟨h5, h⟩ := He.ba h
  obtain ⟨h6, h⟩ := He.ba h
  obtain ⟨h7, h8⟩ := He.ba h
  exact ⟨He.eqO_ok h1, He.eqO_ok h2, of_decide_eq_true h3, h4, He.eqO_ok h5, He.eqO_ok h6, of_decide_eq_true h7, of_decide_eq_true h8⟩

/-! ### constants, a tuple's index -/
section
variable {X : Cx} {v : V} {x : Str}
/-- a name of the module that stands for v -/
def Says (mg : Str → Option Value) (x : Str) (v : V) : Prop := ∃ u, mg x = some u ∧ RelV v u
theorem zglo {pos : Pos} (c : Says X.mg x v) (hg : Gl X x := by rfl) (hd : (x == ("__debug__" : Str)) = false := by decide) : PE X (.Name x pos) (tC v) := by
  obtain ⟨u, hm, r⟩ := c
  exact pe_glob hg hm r hd
theorem zgix {e : Expr} {te : TE} {apos cpos pos : Pos} (c : Says X.mg x v) (ha : PE X e te) (hg : Gl X x := by rfl) (hd : (x == ("__debug__" : Str)) = false := by decide)
    (he : starEach [e] X.env = (false, eval e X.env) :: starEach [] X.env := by rfl)
    (hbase : attributeBase (.Name x pos) "index" X.env (eval (.Name x pos) X.env) = eval (.Name x pos) X.env := by rfl)
    (hfew : ((backTo cpos (starEach [e] X.env)).all (fun x => !x.1) && (backToKw cpos (keywordEach [] X.env)).all (fun x => x.1.isSome) && decide ([e].length + ([] : List Keyword).length + (if ([] : List Keyword).isEmpty then 0 else 1) < 30)) = true := by rfl)
    (hline : (apos.endLine == cpos.line) = true := by rfl) (hplain : (backTo cpos (starEach [] X.env)).any (·.1) = false := by rfl) :
    PE X (.Call (.Attribute (.Name x pos) "index" apos) [e] [] cpos) (fun σ H Q => tyV X.K "tuple" v H ∧ te σ H fun y H2 => rTix X.K v [y] H2 Q) :=
  pe_imp (pe_bm PySem.F.plainAttrs_tuple PySem.F.slot_tuple_index PySem.F.type_tuple_index mt_tup_index (zglo c hg hd) (pa_cons ha pa_nil he) hbase hfew hline he hplain) fun _ _ _ h => h
end

/-! ### built-ins by name -/
section
variable {X : Cx} {e e' : Expr} {t : TA} {p pos : Pos}
theorem zb_len (hg : Gl X "len") (hm : X.mg "len" = none) (ha : PA X [e] t) (he : starEach [e] X.env = (false, eval e X.env) :: starEach [] X.env := by rfl) : PE X (.Call (.Name "len" p) [e] [] pos) (tCB (rBi X.K .len) t) :=
  pe_callB z_len hg hm (by decide +kernel) ha (he := he)
theorem zb_int (hg : Gl X "int") (hm : X.mg "int" = none) (ha : PA X [e] t) (he : starEach [e] X.env = (false, eval e X.env) :: starEach [] X.env := by rfl) : PE X (.Call (.Name "int" p) [e] [] pos) (tCB (rBi X.K .int) t) :=
  pe_callTy z_int hg hm (by decide +kernel) ha (he := he)
theorem zb_str (hg : Gl X "str") (hm : X.mg "str" = none) (ha : PA X [e] t) (he : starEach [e] X.env = (false, eval e X.env) :: starEach [] X.env := by rfl) : PE X (.Call (.Name "str" p) [e] [] pos) (tCB (rBi X.K .str) t) :=
  pe_callTy z_str hg hm (by decide +kernel) ha (he := he)
theorem zb_list (hc : X.calm = true) (hg : Gl X "list") (hm : X.mg "list" = none) (ha : PA X [e] t) (he : starEach [e] X.env = (false, eval e X.env) :: starEach [] X.env := by rfl) : PE X (.Call (.Name "list" p) [e] [] pos) (tCB (rBi X.K .list) t) :=
  pe_callTy (z_list hc) hg hm (by decide +kernel) ha (he := he)
theorem zb_tuple (hg : Gl X "tuple") (hm : X.mg "tuple" = none) (ha : PA X [e] t) (he : starEach [e] X.env = (false, eval e X.env) :: starEach [] X.env := by rfl) : PE X (.Call (.Name "tuple" p) [e] [] pos) (tCB (rBi X.K .tuple) t) :=
  pe_callTy z_tuple hg hm (by decide +kernel) ha (he := he)
theorem zb_dict (hg : Gl X "dict") (hm : X.mg "dict" = none) (ha : PA X [e] t) (he : starEach [e] X.env = (false, eval e X.env) :: starEach [] X.env := by rfl) : PE X (.Call (.Name "dict" p) [e] [] pos) (tCB (rBi X.K .dict) t) :=
  pe_callTy z_dict hg hm (by decide +kernel) ha (he := he)
theorem zb_sum (hc : X.calm = true) (hg : Gl X "sum") (hm : X.mg "sum" = none) (ha : PA X [e] t) (he : starEach [e] X.env = (false, eval e X.env) :: starEach [] X.env := by rfl) : PE X (.Call (.Name "sum" p) [e] [] pos) (tCB (rBi X.K .sum) t) :=
  pe_callB (z_sum hc) hg hm (by decide +kernel) ha (he := he)
theorem zb_any (hc : X.calm = true) (hg : Gl X "any") (hm : X.mg "any" = none) (ha : PA X [e] t) (he : starEach [e] X.env = (false, eval e X.env) :: starEach [] X.env := by rfl) : PE X (.Call (.Name "any" p) [e] [] pos) (tCB (rBi X.K .any) t) :=
  pe_callB (z_any hc) hg hm (by decide +kernel) ha (he := he)
theorem zb_sorted (hc : X.calm = true) (hg : Gl X "sorted") (hm : X.mg "sorted" = none) (ha : PA X [e] t) (he : starEach [e] X.env = (false, eval e X.env) :: starEach [] X.env := by rfl) : PE X (.Call (.Name "sorted" p) [e] [] pos) (tCB (rBi X.K .sorted) t) :=
  pe_callB (z_sorted hc) hg hm (by decide +kernel) ha (he := he)
theorem zb_abs (hg : Gl X "abs") (hm : X.mg "abs" = none) (ha : PA X [e] t) (he : starEach [e] X.env = (false, eval e X.env) :: starEach [] X.env := by rfl) : PE X (.Call (.Name "abs" p) [e] [] pos) (tCB (rBi X.K .abs) t) :=
  pe_callB z_abs hg hm (by decide +kernel) ha (he := he)
theorem zb_min2 (hc : X.calm = true) (hg : Gl X "min") (hm : X.mg "min" = none) (ha : PA X [e, e'] t) (he : starEach [e, e'] X.env = (false, eval e X.env) :: starEach [e'] X.env := by rfl) (hpl : (backTo pos (starEach [e'] X.env)).any (·.1) = false := by rfl) :
    PE X (.Call (.Name "min" p) [e, e'] [] pos) (tCB (rBi X.K .min2) t) := pe_callB (z_min2 hc) hg hm (by decide +kernel) ha (he := he) (hpl := hpl)
theorem zlrg {te : TE} {p2 q2 : Pos} (hc : X.calm = true) (hg : Gl X "list") (hm : X.mg "list" = none) (hg2 : Gl X "range") (hm2 : X.mg "range" = none) (ha : PE X e te)
    (na : starEach [e] X.env = (false, eval e X.env) :: starEach [] X.env := by rfl) (na2 : starEach [.Call (.Name "range" p2) [e] [] q2] X.env = (false, eval (.Call (.Name "range" p2) [e] [] q2) X.env) :: starEach [] X.env := by rfl) :
    PE X (.Call (.Name "list" p) [.Call (.Name "range" p2) [e] [] q2] [] pos) (tLstRg (tRg1 te)) := pe_listRg hc hg hm (prg_1 hg2 hm2 ha na) na2
theorem zb_minD {te te' : TE} {kp : Pos} (hc : X.calm = true) (hg : Gl X "min") (hm : X.mg "min" = none) (h1 : PE X e te) (h2 : PE X e' te') (he : starEach [e] X.env = (false, eval e X.env) :: starEach [] X.env := by rfl) :
    PE X (.Call (.Name "min" p) [e] [⟨some "default", e', kp⟩] pos) (tCB (rBi X.K .minD) (tCons te (tCons te' tNil))) :=
  ⟨fun pins s σ H Q I h => (pe_callBK (X := X) (x := "min") (p := p) (pos := pos) (cr_minD hc) hg hm (by decide +kernel) (pa_cons h1 pa_nil (hs := he)) (pk_cons h2 pk_nil) (he := by rw [he]; rfl) (hpl := by rw [he]; rfl)).run pins s σ H Q I h⟩
theorem zb_lset {te : TE} {p2 q2 : Pos} (hg : Gl X "len") (hm : X.mg "len" = none) (hg2 : Gl X "set") (hm2 : X.mg "set" = none) (ha : PE X e te) (hc : X.calm = true := by rfl) (na : starEach [e] X.env = (false, eval e X.env) :: starEach [] X.env := by rfl) :
    PE X (.Call (.Name "len" p) [.Call (.Name "set" p2) [e] [] q2] [] pos) (tCB (rBi X.K .lset) (tCons te tNil)) := by
  refine ⟨fun pins s σ H Q I h => (RZ.pe_lenSetI (p := p) (p2 := p2) (q := q2) (pos := pos) hg hm hg2 hm2 ha hc na).run pins s σ H Q I ?_⟩
  have h : te σ H fun x H1 => ∃ (a : Addr) (ns : List Int), [x] = [V.ref a] ∧ SqL X.K H1 a (ns.map V.int) ∧ ns.Nodup ∧ ns.length ≤ 4000 ∧ Q (.int (ns.length : Nat)) H1 := h
  have e1 : (fun (x : V) (H1 : Hp) => ∃ (a : Addr) (ns : List Int), [x] = [V.ref a] ∧ SqL X.K H1 a (ns.map V.int) ∧ ns.Nodup ∧ ns.length ≤ 4000 ∧ Q (.int (ns.length : Nat)) H1) = fun x H1 => ∃ (l : Addr) (ns : List Int), x = .ref l ∧ SqL X.K H1 l (ns.map V.int) ∧ ns.Nodup ∧ ns.length ≤ 4000 ∧ Q (.int (ns.length : Nat)) H1 := by
    funext x H1
    simp only [List.cons.injEq, and_true]
  rw [e1] at h
  exact h
theorem zb_max2 (hc : X.calm = true) (hg : Gl X "max") (hm : X.mg "max" = none) (ha : PA X [e, e'] t) (he : starEach [e, e'] X.env = (false, eval e X.env) :: starEach [e'] X.env := by rfl) (hpl : (backTo pos (starEach [e'] X.env)).any (·.1) = false := by rfl) :
    PE X (.Call (.Name "max" p) [e, e'] [] pos) (tCB (rBi X.K .max2) t) := pe_callB (z_max2 hc) hg hm (by decide +kernel) ha (he := he) (hpl := hpl)
theorem zb_divmod (hg : Gl X "divmod") (hm : X.mg "divmod" = none) (ha : PA X [e, e'] t) (he : starEach [e, e'] X.env = (false, eval e X.env) :: starEach [e'] X.env := by rfl) (hpl : (backTo pos (starEach [e'] X.env)).any (·.1) = false := by rfl) :
    PE X (.Call (.Name "divmod" p) [e, e'] [] pos) (tCB (rBi X.K .divmod) t) := pe_callB z_divmod hg hm (by decide +kernel) ha (he := he) (hpl := hpl)
theorem zty (t : Tn) {p : Pos} (hg : Gl X (Str.ofString t.nm)) (hm : X.mg (Str.ofString t.nm) = none) : PE X (.Name (Str.ofString t.nm) p) (tC (.ty t.nm)) := by
  refine pe_bltn (u := .type t.nm) hg hm ?_ rfl ?_ ?_
  · cases t <;> decide +kernel
  · cases t <;> decide
  · cases t <;> decide
theorem zisi {ta : TE} {x : Str} {q : Pos} (t : Tn) (hx : x = Str.ofString t.nm) (hg : Gl X "isinstance") (hm : X.mg "isinstance" = none) (hg2 : Gl X x) (hm2 : X.mg x = none) (ha : PE X e ta)
    (he : starEach [e, .Name x q] X.env = (false, eval e X.env) :: starEach [.Name x q] X.env := by rfl) (he2 : starEach [.Name x q] X.env = (false, eval (.Name x q) X.env) :: starEach [] X.env := by rfl) (hpl : (backTo pos (starEach [.Name x q] X.env)).any (·.1) = false := by rfl) :
    PE X (.Call (.Name "isinstance" p) [e, .Name x q] [] pos) (tCB (rIsi X.K) (tCons ta (tCons (tC (.ty t.nm)) tNil))) := by
  subst hx
  exact pe_callB call_isi hg hm (by decide +kernel) (pa_cons ha (pa_cons (zty t hg2 hm2) pa_nil he2) he) (he := he) (hpl := hpl)
theorem zisc {ta : TE} {x : Str} {q : Pos} {C : Addr} (hg : Gl X "isinstance") (hm : X.mg "isinstance" = none) (hg2 : Gl X x) (hm2 : X.mg x = some (.ref C)) (ha : PE X e ta)
    (hd : (x == ("__debug__" : Str)) = false := by decide) (he : starEach [e, .Name x q] X.env = (false, eval e X.env) :: starEach [.Name x q] X.env := by rfl) (he2 : starEach [.Name x q] X.env = (false, eval (.Name x q) X.env) :: starEach [] X.env := by rfl) (hpl : (backTo pos (starEach [.Name x q] X.env)).any (·.1) = false := by rfl) :
    PE X (.Call (.Name "isinstance" p) [e, .Name x q] [] pos) (tCB (rIsi X.K) (tCons ta (tCons (tC (.ref C)) tNil))) :=
  pe_callB call_isi hg hm (by decide +kernel) (pa_cons ha (pa_cons (zglo ⟨_, hm2, rfl⟩ hg2 hd) pa_nil he2) he) (he := he) (hpl := hpl)
theorem ziso {ta : TE} {x : Str} {q : Pos} {C : Addr} (hg : Gl X "isinstance") (hm : X.mg "isinstance" = none) (hg2 : Gl X x) (hm2 : X.mg x = some (.ref C)) (ha : PE X e ta)
    (hd : (x == ("__debug__" : Str)) = false := by decide) (he : starEach [e, .Name x q] X.env = (false, eval e X.env) :: starEach [.Name x q] X.env := by rfl) (he2 : starEach [.Name x q] X.env = (false, eval (.Name x q) X.env) :: starEach [] X.env := by rfl) (hpl : (backTo pos (starEach [.Name x q] X.env)).any (·.1) = false := by rfl) :
    PE X (.Call (.Name "isinstance" p) [e, .Name x q] [] pos) (tCB (Kept.rIsO X.K) (tCons ta (tCons (tC (.ref C)) tNil))) :=
  pe_callB Kept.call_isO hg hm (by decide +kernel) (pa_cons ha (pa_cons (zglo ⟨_, hm2, rfl⟩ hg2 hd) pa_nil he2) he) (he := he) (hpl := hpl)
theorem zisoB {ta : TE} {x : Str} {q : Pos} {cn : String} (hg : Gl X "isinstance") (hm : X.mg "isinstance" = none) (hg2 : Gl X x) (hm2 : X.mg x = none) (hbt : bootBuiltins x = some (.type cn)) (hnn : (x == ("__name__" : Str)) = false) (ha : PE X e ta)
    (hd : (x == ("__debug__" : Str)) = false := by decide) (he : starEach [e, .Name x q] X.env = (false, eval e X.env) :: starEach [.Name x q] X.env := by rfl) (he2 : starEach [.Name x q] X.env = (false, eval (.Name x q) X.env) :: starEach [] X.env := by rfl) (hpl : (backTo pos (starEach [.Name x q] X.env)).any (·.1) = false := by rfl) :
    PE X (.Call (.Name "isinstance" p) [e, .Name x q] [] pos) (tCB (Kept.rIsO X.K) (tCons ta (tCons (tC (.ty cn)) tNil))) := by
  have pt : PE X (.Name x q) (tC (.ty cn)) := pe_bltn (u := .type cn) hg2 hm2 hbt rfl (by intro z; rw [z] at hnn; exact absurd hnn (by decide)) hd
  exact pe_callB Kept.call_isO hg hm (by decide +kernel) (pa_cons ha (pa_cons pt pa_nil he2) he) (he := he) (hpl := hpl)
theorem zisi2 {ta : TE} {x y : Str} {q1 q2 q3 : Pos} {kk : Nat} (t u : Tn) (hx : x = Str.ofString t.nm) (hy : y = Str.ofString u.nm) (hg : Gl X "isinstance") (hm : X.mg "isinstance" = none) (hg2 : Gl X x) (hm2 : X.mg x = none) (hg3 : Gl X y) (hm3 : X.mg y = none) (ha : PE X e ta)
    (he : starEach [e, .Tuple [.Name x q1, .Name y q2] kk q3] X.env = (false, eval e X.env) :: starEach [.Tuple [.Name x q1, .Name y q2] kk q3] X.env := by rfl)
    (he2 : starEach [.Tuple [.Name x q1, .Name y q2] kk q3] X.env = (false, eval (.Tuple [.Name x q1, .Name y q2] kk q3) X.env) :: starEach [] X.env := by rfl) (hpl : (backTo pos (starEach [.Tuple [.Name x q1, .Name y q2] kk q3] X.env)).any (·.1) = false := by rfl)
    (ht : starEach [.Name x q1, .Name y q2] X.env = (false, eval (.Name x q1) X.env) :: starEach [.Name y q2] X.env := by rfl) (ht2 : starEach [.Name y q2] X.env = (false, eval (.Name y q2) X.env) :: starEach [] X.env := by rfl) :
    PE X (.Call (.Name "isinstance" p) [e, .Tuple [.Name x q1, .Name y q2] kk q3] [] pos) (rIsi2 X.K t u ta) := by
  subst hx hy
  exact pe_callB call_isiT hg hm (by decide +kernel) (pa_cons ha (pa_cons (pe_tup (pa_cons (zty t hg2 hm2) (pa_cons (zty u hg3 hm3) pa_nil ht2) ht)) pa_nil he2) he) (he := he) (hpl := hpl)
end

/-! ### what is being handled -/
section
variable {X : Cx} {c : RC} {kk cn : String} {i : Nat} {xc : Str} {a : Addr} {oe : Obj} {cls : Value} {d : Option Addr} {pn : List (Addr × Obj)} {p q pos : Pos} {e : Expr}
theorem zisx (hK : c.K = X.K) (hz : Zc cls d oe) (hf : ∃ vs, oe.data = .fields vs) (hg : Gl X "isinstance") (hm : X.mg "isinstance" = none) (hg2 : Gl X xc) (hm2 : X.mg xc = some (.ref (ca X.K cn))) (he : PE (X.suite a ((a, oe) :: pn)) e (tVar i))
    (hd : (xc == ("__debug__" : Str)) = false := by decide) (he1 : starEach [e, .Name xc q] X.env = (false, eval e X.env) :: starEach [.Name xc q] X.env := by rfl) (he2 : starEach [.Name xc q] X.env = (false, eval (.Name xc q) X.env) :: starEach [] X.env := by rfl) (hpl : (backTo pos (starEach [.Name xc q] X.env)).any (·.1) = false := by rfl) :
    PE (X.suite a ((a, oe) :: pn)) (.Call (.Name "isinstance" p) [e, .Name xc q] [] pos) (rdE (c.exc kk a cls d) (.isx i cn)) := by
  refine ⟨fun pins s σ H Q I h => ?_⟩
  obtain ⟨D, e1, e2, C, e3, b, kb, qq⟩ := h
  have e1' : cls = .ref D := e1
  have e2' : d = none := e2
  subst e1' e2'
  have C' : ExcC X.K D := by rw [← hK]; exact C
  have kb' : PySem.W.kitOne X.K (.ref D) (.ref (ca X.K cn)) = some b := by rw [← hK]; exact kb
  have pe := pe_callB (X := X.suite a ((a, oe) :: pn)) (pos := pos) (p := p) (call_isE (pn := pn) C' hz hf) hg hm (by decide +kernel) (pa_cons he (pa_cons (zglo (X := X.suite a ((a, oe) :: pn)) (pos := q) (v := .ref (ca X.K cn)) ⟨_, hm2, rfl⟩ hg2 hd) pa_nil he2) he1) (he := he1) (hpl := hpl)
  exact pe.run pins s σ H Q I ⟨.ref a, e3, .ref (ca X.K cn), .ref (ca X.K cn), b, rfl, fun u r => r, kb', qq⟩
theorem zisxB (hK : c.K = X.K) (hz : Zc cls d oe) (hf : ∃ vs, oe.data = .fields vs) (hg : Gl X "isinstance") (hm : X.mg "isinstance" = none) (hxc : xc = Str.ofString cn) (hg2 : Gl X xc) (hm2 : X.mg xc = none) (hbt : bootBuiltins xc = some (.type cn)) (hnn : (xc == ("__name__" : Str)) = false) (he : PE (X.suite a ((a, oe) :: pn)) e (tVar i))
    (hd : (xc == ("__debug__" : Str)) = false := by decide) (he1 : starEach [e, .Name xc q] X.env = (false, eval e X.env) :: starEach [.Name xc q] X.env := by rfl) (he2 : starEach [.Name xc q] X.env = (false, eval (.Name xc q) X.env) :: starEach [] X.env := by rfl) (hpl : (backTo pos (starEach [.Name xc q] X.env)).any (·.1) = false := by rfl) :
    PE (X.suite a ((a, oe) :: pn)) (.Call (.Name "isinstance" p) [e, .Name xc q] [] pos) (rdE (c.exc kk a cls d) (.isxB i cn)) := by
  refine ⟨fun pins s σ H Q I h => ?_⟩
  obtain ⟨D, e1, e2, C, e3, b, kb, qq⟩ := h
  have e1' : cls = .ref D := e1
  have e2' : d = none := e2
  subst e1' e2'
  have C' : ExcC X.K D := by rw [← hK]; exact C
  have kb' : PySem.W.kitOne X.K (.ref D) (.type cn) = some b := by rw [← hK]; exact kb
  have pt : PE (X.suite a ((a, oe) :: pn)) (.Name xc q) (tC (.ty cn)) := pe_bltn (u := .type cn) hg2 hm2 hbt rfl (by intro z; rw [z] at hnn; exact absurd hnn (by decide)) hd
  have pe := pe_callB (X := X.suite a ((a, oe) :: pn)) (pos := pos) (p := p) (call_isE (pn := pn) C' hz hf) hg hm (by decide +kernel) (pa_cons he (pa_cons pt pa_nil he2) he1) (he := he1) (hpl := hpl)
  exact pe.run pins s σ H Q I ⟨.ref a, e3, .ty cn, .type cn, b, rfl, fun u r => r, kb', qq⟩
end

/-! ### names, targets, statements -/
section
variable {X : Cx} {pos : Pos}
theorem znm (i : Nat) {x : Str} (hN : X.N.Nodup) (hi : X.N[i]? = some x := by rfl) (hx : Loc X.env.scope x := by first | exact Or.inl rfl | exact Or.inr rfl) (hf : X.fn x = true ∨ X.env.scope.names.lookup x = some .local := by first | exact Or.inl rfl | exact Or.inr rfl) : L2.PG X (.Name x pos) (gName i) := pg_name hN hi hx hf
theorem zset (i : Nat) {x : Str} {e : Expr} {te : TE} {pos' : Pos} (hN : X.N.Nodup) (he : PE X e te) (hi : X.N[i]? = some x := by rfl) (hx : Loc X.env.scope x := by first | exact Or.inl rfl | exact Or.inr rfl)
    (hs : swapsWith e (some (.Name x pos')) pos.line X.env = pure false := by rfl) (hf : X.fn x = true ∨ X.env.scope.names.lookup x = some .local := by first | exact Or.inl rfl | exact Or.inr rfl) : PS X (.Assign [.Name x pos'] e pos) (tAsg te (gName i)) := ps_set hN hi hx he hs hf
theorem z_iadd : PIp X .Add (rAug .add) := ip_add
theorem z_isub : PIp X .Sub (rAug .sub) := ip_sub
theorem z_fadd : InOp X .Add (rAug .add) := in_add
theorem z_fsub : InOp X .Sub (rAug .sub) := in_sub
theorem ztru {a : Expr} {ta : TE} (ha : PE X a ta) (he : ∀ whole, isTrue a X.env whole = (do let v ← whole; standAt a.pos; holding [v] (truthy v)) := by intro _; rfl) : PT X a (fun σ H Q => ta σ H fun x H' => ∃ k, TruV X.K x H' k ∧ Q k H') := pt_truth ha he
end
theorem fn_zero {P : Program} {w : World} {K : PySem.W.Frag} {mg : Str → Option Value} {base : Heap} {CX : CXT} {k : Nat} {f : Addr} {fd : FuncData} {ps : List Str} {PR : Prog} {nm : String} : FnOk P w K mg base CX k f fd ps (spR PR K 0 nm) :=
  ⟨fun vs H Q E h => (by obtain ⟨_, _, _, _, _, _, _, _, _, _, z, _⟩ := h; cases z), fun A outer s H args us vs Q E _ _ _ _ h => (by obtain ⟨_, _, _, _, _, _, _, _, _, _, z, _⟩ := h; cases z)⟩
theorem lt1_of {u : Nat} (h : u + 64 < cLine) : u + 1 < cLine := by omega
end Z

set_option maxRecDepth 100000
set_option maxHeartbeats 2000000
/-! ZM: what the head tells, the law's end. -/
namespace Z
open PySem PySem.Spec PyProof.Rows L2

/-! ### a tuple of the top -/
def tupZ (K : PySem.W.Frag) (x : Str) (vs : List V) : Bool := match K.lookup (He.ga K x) with
  | some ⟨.type c, none, .seq its _, _⟩ => decide (c = "tuple") && (decide (its.size ≤ sizeLine) && He.relAll vs its.toList)
  | _ => false
theorem tupZ_ok {K : PySem.W.Frag} {x : Str} {vs : List V} (h : tupZ K x vs = true) (H : Hp) : SqT K H (He.ga K x) vs ∧ tyV K "tuple" (.ref (He.ga K x)) H := by
  unfold tupZ at h
  cases q : K.lookup (He.ga K x) with
  | none => rw [q] at h; cases h
  | some o =>
    obtain ⟨oc, od, dt, osl⟩ := o
    rw [q] at h
    cases oc with
    | type c =>
      cases od with
      | none =>
        cases dt with
        | seq its n =>
          obtain ⟨h1, h2⟩ := He.ba (show (decide (c = "tuple") && (decide (its.size ≤ sizeLine) && He.relAll vs its.toList)) = true from h)
          obtain ⟨h3, h4⟩ := He.ba h2
          have e := congrArg Value.type (of_decide_eq_true h1)
          exact ⟨.inr ⟨_, its, n, q, e, rfl, of_decide_eq_true h3, He.relAll_ok h4⟩, .inr (.inl ⟨rfl, _, q, e, rfl⟩)⟩
        | _ => cases h
      | some a => cases dt <;> cases h
    | _ => cases od <;> cases dt <;> cases h

/-! ### the Hook -/
abbrev AlZ : Type := He.AlD × Bool
def obsZ (n : Nat) (fa : List He.Fa) (fn : List He.DefD) (ex : PySem.W.Frag → Bool) (g : Addr → Option Obj) : AlZ := (He.obsD fa fn (He.frG g (He.asD g n)), ex (He.frG g (He.asD g n)))
structure SaysZ (fa : List He.Fa) (fn : List He.DefD) (ex : PySem.W.Frag → Bool) (K : PySem.W.Frag) : Prop where
  d : He.SaysD fa fn K
  more : ex K = true
def hookZ (n : Nat) (fa : List He.Fa) (fn : List He.DefD) (ex : PySem.W.Frag → Bool) : PySem.W.Hook where
  α := AlZ
  obs := fun s => obsZ n fa fn ex s.heap.get?
  val := fun _ => (He.valD fn, true)
  says := fun _ h => ∃ K : PySem.W.Frag, K.In h ∧ SaysZ fa fn ex K
  of := fun _ _ e => ⟨_, He.frG_in, ⟨congrArg (fun z : AlZ => z.1) e, congrArg (fun z : AlZ => z.2) e⟩⟩
  keeps := fun _ _ _ ⟨K, hK, c⟩ k => ⟨K, PySem.W.Frag.In.keeps hK k, c⟩
theorem obsZ_eq {n : Nat} {fa : List He.Fa} {fn : List He.DefD} {ex : PySem.W.Frag → Bool} {g : Addr → Option Obj} {s : Shared} (h : ∀ a, g a = s.heap.get? a) : obsZ n fa fn ex g = (hookZ n fa fn ex).obs s := by
  have e : g = s.heap.get? := funext h
  rw [e] <;> rfl
section
variable {K : PySem.W.Frag} {h : Heap} {mg : Str → Option Value}
theorem says_int (X : K.In h) (G : h.Ns mainGlobals mg) {x : Str} {i : Int} (c : (He.Fa.int x i).ok K = true) : Says mg x (.int i) := by
  obtain ⟨t, e⟩ := He.int_ok X G c
  exact ⟨_, e, t, rfl⟩
theorem says_str (X : K.In h) (G : h.Ns mainGlobals mg) {x z : Str} (c : (He.Fa.str x z).ok K = true) : Says mg x (.str z) := by
  obtain ⟨t, e⟩ := He.str_ok X G c
  exact ⟨_, e, t, rfl⟩
theorem says_glo (X : K.In h) (G : h.Ns mainGlobals mg) {x : Str} (c : (He.Fa.glo x).ok K = true) : Says mg x (.ref (He.ga K x)) := ⟨_, He.glo_ok X G c, rfl⟩
end

/-! ### calls -/
section
variable {P : Program} {w : World} {K : PySem.W.Frag} {mg : Str → Option Value} {base : Heap} {CX : CXT} {k : Nat} {f : Addr} {ps : List Str} {dvs : List V} {sp : Sp} {x qual : Str} {params : Arguments} {body : List Stmt} {scope : Scope} {kws : List (Str × V)} {fd : FuncData}
theorem cal_of (F : FunD K x qual params body scope [] kws f fd) (ok : FnOk P w K mg base CX k f fd ps sp)
    (h : ∀ (kV doc pm : Value) (an : Option Addr) (cdv ct : Value) (us : List Value), us.length = ps.length → bindArgs (PySem.W.fnOf x qual params body scope .none kV doc pm an cdv ct) ⟨us, []⟩ = pure (ps.zip us)) : Cal P w K mg base CX k f ps [] sp :=
  ⟨⟨fd, [], ok, .nil, F.bindsN h⟩, F.kp⟩
theorem cal_dfl (n j : Nat) (F : FunD K x qual params body scope dvs kws f fd) (ok : FnOk P w K mg base CX k f fd ps sp) (hd : dvs ≠ []) (hn : n + (dvs.length - j) = ps.length)
    (h : ∀ (T : Addr) (kV doc pm : Value) (an : Option Addr) (cdv ct : Value) (us its : List Value), us.length = n → its.length = dvs.length →
      ∃ k, bindArgs (PySem.W.fnOf x qual params body scope (.ref T) kV doc pm an cdv ct) ⟨us, []⟩ = seqItems? (.ref T) >>= k ∧ k (some its.toArray) = pure (ps.zip (us ++ its.drop j))) : Cal P w K mg base CX k f ps (dvs.drop j) sp := by
  obtain ⟨ds, h1, h2⟩ := F.binds1 n j hd hn h
  exact ⟨⟨fd, ds, ok, h1, h2⟩, F.kp⟩
theorem cal_zero {PR : Prog} {nm : String} {fd : FuncData} (hd : Vals dvs []) (hb : Binds K fd ps []) (kp : PySem.W.keepIn K (.ref f) = true) : Cal P w K mg base CX k f ps dvs (spR PR K 0 nm) :=
  ⟨⟨fd, [], fn_zero, hd, hb⟩, kp⟩
end

/-! ### the law's end -/
theorem ok0 {P : Program} {w : World} {K : PySem.W.Frag} {mg : Str → Option Value} {base : Heap} {k : Nat} {f : Addr} {fd : FuncData} {ps : List Str} {sp : Sp} (F : FnOk P w K mg base (L2.CX P w) k f fd ps sp) : FnOk P w K mg base CX0 k f fd ps (fun vs H Q _ => sp vs H Q fun _ _ _ => False) :=
  ⟨fun vs H Q _ h => F.len vs H Q _ h, fun A outer s H args us vs Q E hr he hb hv hs => codeAny_mono (F.run A outer s H args us vs Q _ hr he hb hv hs) fun res s' hq => by
    match res, hq with
    | .error e, hq =>
      obtain ⟨_, _, _, _, _, _, _, _, _, _, _, _, z⟩ := hq
      exact z
    | .ok (.ret u), hq => exact hq⟩
def h0 (ns : List Int) : Hm := ⟨fun b => if b = 0 then some (.fz (ns.map D.int)) else none, 1⟩
theorem sim0 {K : PySem.W.Frag} {H : Hp} {a : Addr} {ns : List Int} (hO : Only H) (h : SqL K H a (ns.map V.int)) : Sim K (fun _ => a) (h0 ns) H := by
  have hf : SqF K H a (ns.map V.int) := by
    rcases h with (h | h) | h
    · rcases hO a with q | ⟨o, xs, q⟩
      · rw [q] at h; cases h
      · rw [q] at h; cases h
    · exact .inl h
    · exact .inr h
  refine ⟨fun b o hb => ?_, fun b c ob oc hb hc mb mc e => ?_⟩
  · simp only [h0] at hb
    split at hb
    · rename_i e
      cases hb
      subst e
      exact ⟨Nat.lt_succ_self 0, _, hf, repInts ns⟩
    · cases hb
  · simp only [h0] at hb hc
    split at hb
    · cases hb; cases mb
    · cases hb
theorem law_sp {P : Prog} {K : PySem.W.Frag} {N n : Nat} {F : Fn} (hf : P.fn "law" = some F) (hn : F.np = 1)
    (sol : ∀ ns : List Int, ns.length ≤ n → ∃ h', callF P N "law" [.ref 0] (h0 ns) = some (.ok (.bl true), h')) (H : Hp) (a : Addr) (ns : List Int) (hl : ns.length ≤ n) (hO : Only H) (hS : SqL K H a (ns.map V.int)) :
    spR P K N "law" [.ref a] H (fun v _ => v = .bl true) fun _ _ _ => False := by
  obtain ⟨h', e⟩ := sol ns hl
  refine ⟨F, fun _ => a, h0 ns, [.ref 0], _, h', hf, hn.symm, sim0 hO hS, .cons (.ref (r := fun _ => a) (Nat.lt_succ_self 0)) .nil, e, ?_⟩
  intro v r' H' S x q
  cases q
  rfl
end Z

set_option maxRecDepth 100000
set_option maxHeartbeats 2000000
/-! ZN: the model's steps as rules for simp; loops. -/
namespace Z
open PySem
section
variable {P : Prog} {cl : Cl} {env : Env} {h h' : Hm}
theorem callF_eq {n : Nat} {f : String} {F : Fn} {ds : List D} (hf : P.fn f = some F) (hl : ds.length = F.np) : callF P (n + 1) f ds h = endF (ex P (callF P n) F.body (start F.ns ds) h) := by
  simp only [callF, hf, if_pos hl]
@[simp] theorem ofS_eq (a b : String) : (Str.ofString a = Str.ofString b) ↔ a = b := ⟨fun e => ofString_inj e, fun e => by rw [e]⟩
@[simp] theorem ok_def {α : Type} (x : α) (h : Hm) : ok x h = some (.ok x, h) := id rfl
@[simp] theorem nxt_def (env : Env) (h : Hm) : nxt env h = some (.nx, env, h) := id rfl
@[simp] theorem liftO_some {α : Type} (x : α) (h : Hm) : liftO (some x) h = some (.ok x, h) := id rfl
@[simp] theorem liftO_none {α : Type} (h : Hm) : liftO (none : Option α) h = none := id rfl
@[simp] theorem endF_nx : endF (some (.nx, env, h)) = some (.ok .non, h) := id rfl
@[simp] theorem endF_rt (d : D) : endF (some (.rt d, env, h)) = some (.ok d, h) := id rfl
@[simp] theorem endF_ex (k : String) : endF (some (.ex k, env, h)) = some (.error k, h) := id rfl
@[simp] theorem start_def (n : Nat) (ds : List D) : start n ds = ds.map some ++ List.replicate (n - ds.length) none := id rfl
@[simp] theorem cd_non : Cst.d .non = .non := id rfl
@[simp] theorem cd_bl (b : Bool) : Cst.d (.bl b) = .bl b := id rfl
@[simp] theorem cd_int (b : Int) : Cst.d (.int b) = .int b := id rfl
@[simp] theorem cd_str (b : String) : Cst.d (.str b) = .str (Str.ofString b) := id rfl
end
/-! the same with hidden continuations: simp does not look into them -/
set_option checkBinderAnnotations false
def bndI {α β : Type} (m : Res α) [f : α → Hm → Res β] : Res β := bnd m f
def toSI {α : Type} (m : Res α) (env : Env) [f : α → Hm → Out] : Out := toS m env f
def thenSI (m : Out) [f : Env → Hm → Out] : Out := thenS m f
def optB {β : Type} (m : Option Bool) [a : Option β] [b : Option β] : Option β := match m with
  | some true => a
  | some false => b
  | none => none
def someI {α β : Type} (m : Option α) [f : α → Option β] : Option β := match m with
  | some x => f x
  | none => none
def insB {β : Type} (m : Option O) [f : String → List (String × D) → Option β] : Option β := match m with
  | some (.ins c fs) => f c fs
  | _ => none
def lstI {β : Type} (m : Option O) [f : List D → Option β] : Option β := match m with
  | some (.lst xs) => f xs
  | _ => none
def tupI {β : Type} (m : Option D) [f : List D → Option β] : Option β := match m with
  | some (.tup xs) => f xs
  | _ => none
def mtI {β : Type} (m : Option String) (o : Option D) [f : String → Option β] : Option β := match m, o with
  | some g, none => f g
  | _, _ => none
def walkI {β : Type} (m : Option (List D × List (Nat × O))) [f : List D → List (Nat × O) → Option β] : Option β := match m with
  | some (items, gd) => f items gd
  | none => none
def dgtO (m : Option (Option D)) (h : Hm) : Res D := match m with
  | some (some v) => ok v h
  | _ => none
def getV (env : Env) (i : Nat) (h : Hm) : Res D := match env[i]? with
  | some (some d) => ok d h
  | _ => none
section
variable {α β : Type} {h : Hm} {env : Env}
@[simp] theorem bndI_ok (a : α) (f : α → Hm → Res β) : @bndI α β (some (.ok a, h)) f = f a h := id rfl
@[simp] theorem bndI_er (k : String) (f : α → Hm → Res β) : @bndI α β (some (.error k, h)) f = some (.error k, h) := id rfl
@[simp] theorem bndI_no (f : α → Hm → Res β) : @bndI α β none f = none := id rfl
@[simp] theorem bndI_if (c : Prop) [Decidable c] (a b : Res α) (f : α → Hm → Res β) : @bndI α β (if c then a else b) f = if c then @bndI α β a f else @bndI α β b f := by split <;> rfl
@[simp] theorem toSI_ok (a : α) (f : α → Hm → Out) : @toSI α (some (.ok a, h)) env f = f a h := id rfl
@[simp] theorem toSI_er (k : String) (f : α → Hm → Out) : @toSI α (some (.error k, h)) env f = some (.ex k, env, h) := id rfl
@[simp] theorem toSI_no (f : α → Hm → Out) : @toSI α none env f = none := id rfl
@[simp] theorem toSI_if (c : Prop) [Decidable c] (a b : Res α) (f : α → Hm → Out) : @toSI α (if c then a else b) env f = if c then @toSI α a env f else @toSI α b env f := by split <;> rfl
@[simp] theorem thenSI_nx (f : Env → Hm → Out) : @thenSI (some (.nx, env, h)) f = f env h := id rfl
@[simp] theorem thenSI_rt (d : D) (f : Env → Hm → Out) : @thenSI (some (.rt d, env, h)) f = some (.rt d, env, h) := id rfl
@[simp] theorem thenSI_ex (k : String) (f : Env → Hm → Out) : @thenSI (some (.ex k, env, h)) f = some (.ex k, env, h) := id rfl
@[simp] theorem thenSI_no (f : Env → Hm → Out) : @thenSI none f = none := id rfl
@[simp] theorem thenSI_if (c : Prop) [Decidable c] (a b : Out) (f : Env → Hm → Out) : @thenSI (if c then a else b) f = if c then @thenSI a f else @thenSI b f := by split <;> rfl
@[simp] theorem endF_if (c : Prop) [Decidable c] (a b : Out) : endF (if c then a else b) = if c then endF a else endF b := by split <;> rfl
@[simp] theorem optB_t (a b : Option β) : @optB β (some true) a b = a := id rfl
@[simp] theorem optB_f (a b : Option β) : @optB β (some false) a b = b := id rfl
@[simp] theorem optB_d (c : Prop) [Decidable c] (a b : Option β) : @optB β (some (decide c)) a b = if c then a else b := by by_cases hc : c <;> simp [hc]
@[simp] theorem someI_some (x : α) (f : α → Option β) : @someI α β (some x) f = f x := id rfl
@[simp] theorem someI_none (f : α → Option β) : @someI α β none f = none := id rfl
@[simp] theorem insB_ins (c : String) (fs : List (String × D)) (f : String → List (String × D) → Option β) : @insB β (some (.ins c fs)) f = f c fs := id rfl
@[simp] theorem lstI_lst (xs : List D) (f : List D → Option β) : @lstI β (some (.lst xs)) f = f xs := id rfl
@[simp] theorem tupI_tup (xs : List D) (f : List D → Option β) : @tupI β (some (.tup xs)) f = f xs := id rfl
@[simp] theorem mtI_some (g : String) (f : String → Option β) : @mtI β (some g) none f = f g := id rfl
@[simp] theorem walkI_some (items : List D) (gd : List (Nat × O)) (f : List D → List (Nat × O) → Option β) : @walkI β (some (items, gd)) f = f items gd := id rfl
@[simp] theorem dgtO_some (v : D) : dgtO (some (some v)) h = some (.ok v, h) := id rfl
@[simp] theorem getV_zero (d : D) (env : Env) : getV (some d :: env) 0 h = some (.ok d, h) := id rfl
@[simp] theorem getV_succ (x : Option D) (env : Env) (i : Nat) : getV (x :: env) (i + 1) h = getV env i h := id rfl
end
section
variable {P : Prog} {cl : Cl} {env : Env} {h h' : Hm}
/-! expressions -/
@[simp] theorem ev_var (i : Nat) : ev P cl (.var i) env h = getV env i h := by (try simp only [ev, bndI, insB, mtI, someI, tupI, walkI, optB, lstI, dgtO, getV]) <;> (first | done | rfl)
@[simp] theorem ev_con (c : Cst) : ev P cl (.con c) env h = ok c.d h := by (try simp only [ev, bndI, insB, mtI, someI, tupI, walkI, optB, lstI, dgtO, getV]) <;> (first | done | rfl)
@[simp] theorem ev_glo (x : String) : ev P cl (.glo x) env h = liftO (P.glob x) h := by (try simp only [ev, bndI, insB, mtI, someI, tupI, walkI, optB, lstI, dgtO, getV]) <;> (first | done | rfl)
@[simp] theorem ev_bin (o : Bop) (a b : E) : ev P cl (.bin o a b) env h = @bndI _ _ (ev P cl a env h) fun x h1 => @bndI _ _ (ev P cl b env h1) fun y h2 => binD o x y h2 := by (try simp only [ev, bndI, insB, mtI, someI, tupI, walkI, optB, lstI, dgtO, getV]) <;> (first | done | rfl)
@[simp] theorem ev_neg (a : E) : ev P cl (.neg a) env h = @bndI _ _ (ev P cl a env h) negD := by (try simp only [ev, bndI, insB, mtI, someI, tupI, walkI, optB, lstI, dgtO, getV]) <;> (first | done | rfl)
@[simp] theorem ev_cmp (o : Cop) (a b : E) : ev P cl (.cmp o a b) env h = @bndI _ _ (ev P cl a env h) fun x h1 => @bndI _ _ (ev P cl b env h1) fun y h2 => liftO ((cmpD o x y h2).map .bl) h2 := by (try simp only [ev, bndI, insB, mtI, someI, tupI, walkI, optB, lstI, dgtO, getV]) <;> (first | done | rfl)
@[simp] theorem ev_chn (o o' : Cop) (a b c : E) : ev P cl (.chn o o' a b c) env h = @bndI _ _ (ev P cl a env h) fun x h1 => @bndI _ _ (ev P cl b env h1) fun y h2 => @optB _ (cmpD o x y h2) (@bndI _ _ (ev P cl c env h2) fun z h3 => liftO ((cmpD o' y z h3).map .bl) h3) (ok (.bl false) h2) := by (try simp only [ev, bndI, insB, mtI, someI, tupI, walkI, optB, lstI, dgtO, getV]) <;> (first | done | rfl)
@[simp] theorem ev_and (a b : E) : ev P cl (.and a b) env h = @bndI _ _ (ev P cl a env h) fun x h1 => (match x with
    | .bl true => ev P cl b env h1
    | .bl false => ok (.bl false) h1
    | _ => none) := by (try simp only [ev, bndI, insB, mtI, someI, tupI, walkI, optB, lstI, dgtO, getV]) <;> (first | done | rfl)
@[simp] theorem ev_or (a b : E) : ev P cl (.or a b) env h = @bndI _ _ (ev P cl a env h) fun x h1 => (match x with
    | .bl true => ok (.bl true) h1
    | .bl false => ev P cl b env h1
    | _ => none) := by (try simp only [ev, bndI, insB, mtI, someI, tupI, walkI, optB, lstI, dgtO, getV]) <;> (first | done | rfl)
@[simp] theorem ev_not (a : E) : ev P cl (.not a) env h = @bndI _ _ (ev P cl a env h) fun x h1 => (match x with
    | .bl b => ok (.bl (!b)) h1
    | _ => none) := by (try simp only [ev, bndI, insB, mtI, someI, tupI, walkI, optB, lstI, dgtO, getV]) <;> (first | done | rfl)
@[simp] theorem ev_ife (c : T) (a b : E) : ev P cl (.ife c a b) env h = @bndI _ _ (evT P cl c env h) fun k h1 => if k = true then ev P cl a env h1 else ev P cl b env h1 := by (try simp only [ev, bndI, insB, mtI, someI, tupI, walkI, optB, lstI, dgtO, getV]) <;> (first | done | rfl)
@[simp] theorem ev_idx (a b : E) : ev P cl (.idx a b) env h = @bndI _ _ (ev P cl a env h) fun x h1 => @bndI _ _ (ev P cl b env h1) fun y h2 => liftO (idxD x y h2) h2 := by (try simp only [ev, bndI, insB, mtI, someI, tupI, walkI, optB, lstI, dgtO, getV]) <;> (first | done | rfl)
@[simp] theorem ev_dgt (a b : E) : ev P cl (.dgt a b) env h = @bndI _ _ (ev P cl a env h) fun x h1 => @bndI _ _ (ev P cl b env h1) fun y h2 => (match x with
    | .ref p => dgtO (dget h2 p y) h2
    | _ => none) := by (try simp only [ev, bndI, insB, mtI, someI, tupI, walkI, optB, lstI, dgtO, getV]) <;> (first | done | rfl)
@[simp] theorem ev_slc (a : E) (lo hi : Eo) : ev P cl (.slc a lo hi) env h = @bndI _ _ (ev P cl a env h) fun x h1 => @bndI _ _ (evO P cl lo env h1) fun l h2 => @bndI _ _ (evO P cl hi env h2) fun u h3 => slcD x l u h3 := by (try simp only [ev, bndI, insB, mtI, someI, tupI, walkI, optB, lstI, dgtO, getV]) <;> (first | done | rfl)
@[simp] theorem ev_att (a : E) (f : String) : ev P cl (.att a f) env h = @bndI _ _ (ev P cl a env h) fun x h1 => (match x with
    | .ref p => @insB _ (h1.get p) fun c fs => if P.fld c f = true then liftO (fs.lookup f) h1 else none
    | _ => none) := by (try simp only [ev, bndI, insB, mtI, someI, tupI, walkI, optB, lstI, dgtO, getV]) <;> (first | done | rfl)
@[simp] theorem ev_tup (es : Es) : ev P cl (.tup es) env h = @bndI _ _ (evs P cl es env h) fun vs h1 => if vs.length ≤ 1000000 then ok (.tup vs) h1 else none := by (try simp only [ev, bndI, insB, mtI, someI, tupI, walkI, optB, lstI, dgtO, getV]) <;> (first | done | rfl)
@[simp] theorem ev_lst (es : Es) : ev P cl (.lst es) env h = @bndI _ _ (evs P cl es env h) fun vs h1 => if vs.length ≤ 1000000 then ok (.ref h1.next) (h1.new (.lst vs)) else none := by (try simp only [ev, bndI, insB, mtI, someI, tupI, walkI, optB, lstI, dgtO, getV]) <;> (first | done | rfl)
@[simp] theorem ev_dict0 : ev P cl (.dict .nil) env h = ok (.ref h.next) (h.new (.dic [])) := by (try simp only [ev, bndI, insB, mtI, someI, tupI, walkI, optB, lstI, dgtO, getV]) <;> (first | done | rfl)
@[simp] theorem ev_disp (a : E) (es : Es) : ev P cl (.dict (.cons a es)) env h = if (Es.cons a es).len % 2 = 0 then @bndI _ _ (evs P cl (.cons a es) env (h.new (.dic []))) fun vs h1 => dispO (h1.get h.next) (pairUp vs) h1 h.next else none := by rw [ev]; rfl; intro z; cases z
@[simp] theorem ev_call (f : String) (es : Es) (ds : List Cst) : ev P cl (.call f es ds) env h = @bndI _ _ (evs P cl es env h) fun vs h1 => cl f (vs ++ ds.map Cst.d) h1 := by (try simp only [ev, bndI, insB, mtI, someI, tupI, walkI, optB, lstI, dgtO, getV]) <;> (first | done | rfl)
@[simp] theorem ev_meth (o : E) (m : String) (es : Es) (ds : List Cst) : ev P cl (.meth o m es ds) env h = @bndI _ _ (ev P cl o env h) fun x h1 => (match x with
    | .ref p => @insB _ (h1.get p) fun c fs => @mtI _ (P.mt c m) (fs.lookup m) fun f => @bndI _ _ (evs P cl es env h1) fun vs h2 => cl f (.ref p :: (vs ++ ds.map Cst.d)) h2
    | _ => none) := by (try simp only [ev, bndI, insB, mtI, someI, tupI, walkI, optB, lstI, dgtO, getV]) <;> (first | done | rfl)
@[simp] theorem ev_new (c : String) (es : Es) : ev P cl (.new c es) env h = @bndI _ _ (evs P cl es env h) fun vs h1 => @someI _ _ (P.mt c "__init__") fun f => @bndI _ _ (cl f (.ref h1.next :: vs) (h1.new (.ins c []))) fun x h2 => (match x with
      | .non => ok (.ref h1.next) h2
      | _ => none) := by
  rw [ev]
  refine congrArg (bnd _) (funext fun vs => funext fun h1 => ?_)
  cases P.mt c "__init__" <;> rfl
@[simp] theorem ev_bi (b : Bi) (es : Es) : ev P cl (.bi b es) env h = @bndI _ _ (evs P cl es env h) fun vs h1 => biD b vs h1 := by (try simp only [ev, bndI, insB, mtI, someI, tupI, walkI, optB, lstI, dgtO, getV]) <;> (first | done | rfl)
@[simp] theorem ev_bm (b : Bm) (o : E) (es : Es) : ev P cl (.bm b o es) env h = @bndI _ _ (ev P cl o env h) fun x h1 => if rcv b x h1 = true then @bndI _ _ (evs P cl es env h1) fun vs h2 => bmD b x vs h2 else none := by (try simp only [ev, bndI, insB, mtI, someI, tupI, walkI, optB, lstI, dgtO, getV]) <;> (first | done | rfl)
@[simp] theorem ev_gix (x : String) (e : E) : ev P cl (.gix x e) env h = @tupI _ (P.glob x) fun xs => @bndI _ _ (ev P cl e env h) fun y h1 => gixD (.tup xs) y h1 := by (try simp only [ev, bndI, insB, mtI, someI, tupI, walkI, optB, lstI, dgtO, getV]) <;> (first | done | rfl)
@[simp] theorem ev_isi (a : E) (t : Tn) : ev P cl (.isi a t) env h = @bndI _ _ (ev P cl a env h) fun x h1 => liftO ((tyN x h1).map fun n => .bl (isTn n t)) h1 := by (try simp only [ev, bndI, insB, mtI, someI, tupI, walkI, optB, lstI, dgtO, getV]) <;> (first | done | rfl)
@[simp] theorem ev_isi2 (a : E) (t u : Tn) : ev P cl (.isi2 a t u) env h = @bndI _ _ (ev P cl a env h) fun x h1 => liftO ((tyN x h1).map fun n => .bl (isTn n t || isTn n u)) h1 := by (try simp only [ev, bndI, insB, mtI, someI, tupI, walkI, optB, lstI, dgtO, getV]) <;> (first | done | rfl)
@[simp] theorem ev_comp (elt : E) (own : List Nat) (g : Tg) (k : ItK) (es : Es) (tst : T) : ev P cl (.comp elt own g k es tst) env h = @bndI _ _ (evs P cl es env h) fun vs h1 => @walkI _ (walk k vs h1) fun items gd => if g.in_ own = true then compL (fun e1 h2 => ev P cl elt e1 h2) (fun e1 h2 => evT P cl tst e1 h2) g gd h1.next (wipeE env own) items (h1.new (.lst [])) else none := by (try simp only [ev, bndI, insB, mtI, someI, tupI, walkI, optB, lstI, dgtO, getV]) <;> (first | done | rfl)
@[simp] theorem evs_nil : evs P cl .nil env h = ok [] h := by (try simp only [evs]) <;> rfl
@[simp] theorem evs_cons (e : E) (es : Es) : evs P cl (.cons e es) env h = @bndI _ _ (ev P cl e env h) fun x h1 => @bndI _ _ (evs P cl es env h1) fun xs h2 => ok (x :: xs) h2 := by (try simp only [evs]) <;> rfl
@[simp] theorem evO_none : evO P cl .none env h = ok none h := by (try simp only [evO]) <;> rfl
@[simp] theorem evO_some (e : E) : evO P cl (.some e) env h = @bndI _ _ (ev P cl e env h) fun x h1 => (match x with
    | .int i => ok (some i) h1
    | _ => none) := by (try simp only [evO]) <;> rfl
@[simp] theorem evT_yes : evT P cl .yes env h = ok true h := by (try simp only [evT, bndI, optB]) <;> (first | done | rfl)
@[simp] theorem evT_cmp (o : Cop) (a b : E) : evT P cl (.cmp o a b) env h = @bndI _ _ (ev P cl a env h) fun x h1 => @bndI _ _ (ev P cl b env h1) fun y h2 => liftO (cmpD o x y h2) h2 := by (try simp only [evT, bndI, optB]) <;> (first | done | rfl)
@[simp] theorem evT_chn (o o' : Cop) (a b c : E) : evT P cl (.chn o o' a b c) env h = @bndI _ _ (ev P cl a env h) fun x h1 => @bndI _ _ (ev P cl b env h1) fun y h2 => @optB _ (cmpD o x y h2) (@bndI _ _ (ev P cl c env h2) fun z h3 => liftO (cmpD o' y z h3) h3) (ok false h2) := by (try simp only [evT, bndI, optB]) <;> (first | done | rfl)
@[simp] theorem evT_and (a b : T) : evT P cl (.and a b) env h = @bndI _ _ (evT P cl a env h) fun k h1 => if k = true then evT P cl b env h1 else ok false h1 := by (try simp only [evT, bndI, optB]) <;> (first | done | rfl)
@[simp] theorem evT_or (a b : T) : evT P cl (.or a b) env h = @bndI _ _ (evT P cl a env h) fun k h1 => if k = true then ok true h1 else evT P cl b env h1 := by (try simp only [evT, bndI, optB]) <;> (first | done | rfl)
@[simp] theorem evT_not (a : T) : evT P cl (.not a) env h = @bndI _ _ (evT P cl a env h) fun k h1 => ok (!k) h1 := by (try simp only [evT, bndI, optB]) <;> (first | done | rfl)
@[simp] theorem evT_tru (a : E) : evT P cl (.tru a) env h = @bndI _ _ (ev P cl a env h) fun x h1 => liftO (truD x h1) h1 := by (try simp only [evT, bndI, optB]) <;> (first | done | rfl)
/-! statements -/
@[simp] theorem ex_skip : ex P cl .skip env h = nxt env h := by (try simp only [ex, toSI, thenSI, insB, someI, walkI, lstI, getV]) <;> (first | done | rfl)
@[simp] theorem ex_seq (a b : S) : ex P cl (.seq a b) env h = @thenSI (ex P cl a env h) fun env1 h1 => ex P cl b env1 h1 := by (try simp only [ex, toSI, thenSI, insB, someI, walkI, lstI, getV]) <;> (first | done | rfl)
@[simp] theorem ex_asg (i : Nat) (e : E) : ex P cl (.asg i e) env h = @toSI _ (ev P cl e env h) env fun x h1 => nxt (env.set i (some x)) h1 := by (try simp only [ex, toSI, thenSI, insB, someI, walkI, lstI, getV]) <;> (first | done | rfl)
@[simp] theorem ex_unp (is : List Nat) (e : E) : ex P cl (.unp is e) env h = @toSI _ (ev P cl e env h) env fun x h1 => @someI _ _ (seqOf x h1) fun xs => @someI _ _ (setN env is xs) fun env1 => nxt env1 h1 := by
  rw [ex]
  refine congrArg (toS _ _) (funext fun x => funext fun h1 => ?_)
  cases seqOf x h1 with
  | none => rfl
  | some xs => dsimp only [someI]; cases e : setN env is xs <;> simp only [e] <;> rfl
@[simp] theorem ex_sfld (o : E) (f : String) (e : E) : ex P cl (.sfld o f e) env h = @toSI _ (ev P cl e env h) env fun x h1 => @toSI _ (ev P cl o env h1) env fun y h2 => (match y with
    | .ref p => @insB _ (h2.get p) fun c fs => if P.fld c f = true ∧ fs.length < 1000 then nxt env (h2.put p (.ins c (setF fs f x))) else none
    | _ => none) := by (try simp only [ex, toSI, thenSI, insB, someI, walkI, lstI, getV]) <;> (first | done | rfl)
@[simp] theorem ex_sidx (o i e : E) : ex P cl (.sidx o i e) env h = @toSI _ (ev P cl e env h) env fun x h1 => @toSI _ (ev P cl o env h1) env fun y h2 => @toSI _ (ev P cl i env h2) env fun z h3 => (match y, z with
    | .ref p, .int k => @lstI _ (h3.get p) fun xs => @someI _ _ (ixD xs.length k) fun j => nxt env (h3.put p (.lst (xs.set j x)))
    | _, _ => none) := by
  rw [ex]
  refine congrArg (toS _ _) (funext fun x => funext fun h1 => congrArg (toS _ _) (funext fun y => funext fun h2 => congrArg (toS _ _) (funext fun z => funext fun h3 => ?_)))
  cases y <;> try rfl
  cases z <;> try rfl
  rename_i p k
  dsimp only
  cases e1 : h3.get p with
  | none => rfl
  | some o =>
    cases o <;> try rfl
    rename_i xs
    dsimp only [someI, lstI]
    cases e : ixD xs.length k <;> simp only [e] <;> rfl
@[simp] theorem ex_dput (o i e : E) : ex P cl (.dput o i e) env h = @toSI _ (ev P cl e env h) env fun x h1 => @toSI _ (ev P cl o env h1) env fun y h2 => @toSI _ (ev P cl i env h2) env fun z h3 => (match y with
    | .ref p => @someI _ _ (dput h3 p z x) fun h4 => nxt env h4
    | _ => none) := by
  rw [ex]
  refine congrArg (toS _ _) (funext fun x => funext fun h1 => congrArg (toS _ _) (funext fun y => funext fun h2 => congrArg (toS _ _) (funext fun z => funext fun h3 => ?_)))
  cases y <;> try rfl
  rename_i p
  dsimp only [someI]
  cases e : dput h3 p z x <;> simp only [e] <;> rfl
@[simp] theorem ex_aug (i : Nat) (o : Bop) (e : E) : ex P cl (.aug i o e) env h = @toSI _ (getV env i h) env fun x _ => @toSI _ (ev P cl e env h) env fun y h1 => @someI _ _ (augD o x y) fun z => nxt (env.set i (some z)) h1 := by
  rw [ex]
  unfold getV
  cases e1 : env[i]? with
  | none => simp only [e1] <;> rfl
  | some v =>
    cases v with
    | none => simp only [e1] <;> rfl
    | some x =>
      simp only [e1]
      show _ = toS (ev P cl e env h) env _
      refine congrArg (toS _ _) (funext fun y => funext fun h1 => ?_)
      cases e2 : augD o x y <;> simp only [e2] <;> rfl
@[simp] theorem ex_augf (o : E) (f : String) (op : Bop) (e : E) : ex P cl (.augf o f op e) env h = @toSI _ (ev P cl o env h) env fun y h1 => (match y with
    | .ref p => @insB _ (h1.get p) fun c fs => if P.fld c f = true then @someI _ _ (fs.lookup f) fun x => @toSI _ (ev P cl e env h1) env fun v h2 => @someI _ _ (augD op x v) fun z => @insB _ (h2.get p) fun c' fs' => if c' = c ∧ fs'.length < 1000 then nxt env (h2.put p (.ins c (setF fs' f z))) else none else none
    | _ => none) := by
  rw [ex]
  refine congrArg (toS _ _) (funext fun y => funext fun h1 => ?_)
  cases y <;> try rfl
  rename_i p
  dsimp only
  cases e1 : h1.get p with
  | none => rfl
  | some ob =>
    cases ob <;> try rfl
    rename_i c fs
    show (if _ then _ else _) = if _ then _ else _
    by_cases hf : P.fld c f = true
    · rw [if_pos hf, if_pos hf]
      cases e2 : fs.lookup f with
      | none => simp only [e2] <;> rfl
      | some x =>
        simp only [e2]
        show _ = toS (ev P cl e env h1) env _
        refine congrArg (toS _ _) (funext fun v => funext fun h2 => ?_)
        cases e3 : augD op x v <;> simp only [e3] <;> rfl
    · rw [if_neg hf, if_neg hf]
@[simp] theorem ex_ite (c : T) (a b : S) : ex P cl (.ite c a b) env h = @toSI _ (evT P cl c env h) env fun k h1 => if k = true then ex P cl a env h1 else ex P cl b env h1 := by (try simp only [ex, toSI, thenSI, insB, someI, walkI, lstI, getV]) <;> (first | done | rfl)
@[simp] theorem ex_for (g : Tg) (k : ItK) (es : Es) (body : S) : ex P cl (.for_ g k es body) env h = @toSI _ (evs P cl es env h) env fun vs h1 => @walkI _ (walk k vs h1) fun items gd => forL (fun e1 h2 => ex P cl body e1 h2) g gd items env h1 := by (try simp only [ex, toSI, thenSI, insB, someI, walkI, lstI, getV]) <;> (first | done | rfl)
@[simp] theorem ex_wh (c : T) (body : S) : ex P cl (.wh c body) env h = whl (fun e1 h1 => evT P cl c e1 h1) (fun e1 h1 => ex P cl body e1 h1) P.lf env h := by (try simp only [ex, toSI, thenSI, insB, someI, walkI, lstI, getV]) <;> (first | done | rfl)
@[simp] theorem ex_ret (e : E) : ex P cl (.ret e) env h = @toSI _ (ev P cl e env h) env fun x h1 => some (.rt x, env, h1) := by (try simp only [ex, toSI, thenSI, insB, someI, walkI, lstI, getV]) <;> (first | done | rfl)
@[simp] theorem ex_drop (e : E) : ex P cl (.drop e) env h = @toSI _ (ev P cl e env h) env fun _ h1 => nxt env h1 := by (try simp only [ex, toSI, thenSI, insB, someI, walkI, lstI, getV]) <;> (first | done | rfl)
@[simp] theorem ex_rai (c : String) : ex P cl (.rai c) env h = some (.ex c, env, h) := by (try simp only [ex, toSI, thenSI, insB, someI, walkI, lstI, getV]) <;> (first | done | rfl)
end


/-! ### displays of dicts -/
@[simp] theorem esl_nil : Es.len .nil = 0 := id rfl
@[simp] theorem esl_cons (a : E) (es : Es) : Es.len (.cons a es) = es.len + 1 := id rfl
@[simp] theorem pairUp_nil : pairUp [] = some [] := id rfl
@[simp] theorem pairUp_i (i : Int) (v : D) (r : List D) : pairUp (.int i :: v :: r) = (pairUp r).map fun ps => (.inl i, v) :: ps := by
  cases h : pairUp r <;> simp [pairUp, key?, h]
@[simp] theorem pairUp_s (i : Str) (v : D) (r : List D) : pairUp (.str i :: v :: r) = (pairUp r).map fun ps => (.inr i, v) :: ps := by
  cases h : pairUp r <;> simp [pairUp, key?, h]
@[simp] theorem dispO_d (kvs : List (L2.Key × D)) (h1 : Hm) (a : Nat) (c : kvs.length ≤ 15) : dispO (some (.dic [])) (some kvs) h1 a = some (.ok (.ref a), h1.put a (.dic (kmerge [] kvs))) := if_pos c
/-! ### operators, built-ins -/
section
variable {h : Hm} {i j : Int}
@[simp] theorem b_add : binD .add (.int i) (.int j) h = some (.ok (.int (i + j)), h) := id rfl
@[simp] theorem b_sub : binD .sub (.int i) (.int j) h = some (.ok (.int (i - j)), h) := id rfl
@[simp] theorem b_mul (c : (-(2 ^ 64) < i ∧ i < 2 ^ 64) ∨ (-(2 ^ 64) < j ∧ j < 2 ^ 64) ∨ ((-(2 ^ 250) < i ∧ i < 2 ^ 250) ∧ -(2 ^ 250) < j ∧ j < 2 ^ 250)) : binD .mul (.int i) (.int j) h = some (.ok (.int (i * j)), h) := if_pos c
@[simp] theorem b_fdiv (c : 0 < j ∧ j < 2 ^ 250) : binD .fdiv (.int i) (.int j) h = some (.ok (.int (i / j)), h) := if_pos c
@[simp] theorem b_mod (c : 0 < j) : binD .mod (.int i) (.int j) h = some (.ok (.int (i % j)), h) := if_pos c
@[simp] theorem b_pow2 : binD .pow (.int 2) (.int 64) h = some (.ok (.int 18446744073709551616), h) := by
  have c : 0 ≤ (64 : Int) ∧ (64 : Int) ≤ 1000000 ∧ w64 2 := by unfold w64; omega
  simp only [binD]
  rw [if_pos c]
  rfl
@[simp] theorem b_shl (c : 0 ≤ j ∧ j ≤ 1000000 ∧ -(2 ^ 64) < i ∧ i < 2 ^ 64) : binD .shl (.int i) (.int j) h = some (.ok (.int (i * 2 ^ j.toNat)), h) := if_pos ⟨c.1, c.2.1, c.2.2⟩
@[simp] theorem b_shr (c : 0 ≤ j) : binD .shr (.int i) (.int j) h = some (.ok (.int (i / 2 ^ j.toNat)), h) := if_pos c
@[simp] theorem b_band : binD .band (.int i) (.int j) h = some (.ok (.int (Builtin.bitAnd i j)), h) := id rfl
@[simp] theorem b_bor : binD .bor (.int i) (.int j) h = some (.ok (.int (Builtin.bitOr i j)), h) := id rfl
@[simp] theorem b_bxor : binD .bxor (.int i) (.int j) h = some (.ok (.int (Builtin.bitXor i j)), h) := id rfl
@[simp] theorem n_int : negD (.int i) h = some (.ok (.int (-i)), h) := id rfl
theorem b_addL {a b : Nat} {xs ys : List D} (ha : h.get a = some (.lst xs)) (hb : h.get b = some (.lst ys)) (c : xs.length + ys.length ≤ 1000000) : binD .add (.ref a) (.ref b) h = some (.ok (.ref h.next), h.new (.lst (xs ++ ys))) := by
  simp only [binD, ha, hb]
  exact if_pos c
@[simp] theorem c_eqI : cmpD .eq (.int i) (.int j) h = some (decide (i = j)) := id rfl
@[simp] theorem c_eqS (s t : Str) : cmpD .eq (.str s) (.str t) h = some (decide (s = t)) := id rfl
@[simp] theorem c_neI : cmpD .ne (.int i) (.int j) h = some (!decide (i = j)) := id rfl
@[simp] theorem c_neS (s t : Str) : cmpD .ne (.str s) (.str t) h = some (!decide (s = t)) := id rfl
@[simp] theorem c_lt : cmpD .lt (.int i) (.int j) h = some (decide (i < j)) := id rfl
@[simp] theorem c_le : cmpD .le (.int i) (.int j) h = some (decide (i ≤ j)) := id rfl
@[simp] theorem c_gt : cmpD .gt (.int i) (.int j) h = some (decide (j < i)) := id rfl
@[simp] theorem c_ge : cmpD .ge (.int i) (.int j) h = some (decide (j ≤ i)) := id rfl
@[simp] theorem bi_divmod (c : 0 < j ∧ -(2 ^ 250) < i ∧ i < 2 ^ 250) : biD .divmod [.int i, .int j] h = some (.ok (.tup [.int (i / j), .int (i % j)]), h) := if_pos c
@[simp] theorem bi_int : biD .int [.int i] h = some (.ok (.int i), h) := id rfl
@[simp] theorem bi_intB (b : Bool) : biD .int [.bl b] h = some (.ok (.int (if b then 1 else 0)), h) := id rfl
@[simp] theorem bi_lenT (xs : List D) : biD .len [.tup xs] h = some (.ok (.int xs.length), h) := id rfl
theorem bi_lenL {a : Nat} {xs : List D} (e : h.get a = some (.lst xs)) : biD .len [.ref a] h = some (.ok (.int xs.length), h) := by simp only [biD, e]; rfl
theorem bi_lenF {a : Nat} {xs : List D} (e : h.get a = some (.fz xs)) : biD .len [.ref a] h = some (.ok (.int xs.length), h) := by simp only [biD, e]; rfl
@[simp] theorem bi_min : biD .min2 [.int i, .int j] h = some (.ok (.int (if j < i then j else i)), h) := id rfl
@[simp] theorem bi_max : biD .max2 [.int i, .int j] h = some (.ok (.int (if j > i then j else i)), h) := id rfl
@[simp] theorem lmin_nil {d : Int} : lmin d [] = d := rfl
@[simp] theorem bi_abs : biD .abs [.int i] h = some (.ok (.int (if i < 0 then -i else i)), h) := id rfl
@[simp] theorem tr_b (b : Bool) : truD (.bl b) h = some b := id rfl
@[simp] theorem tr_i : truD (.int i) h = some (i != 0) := id rfl
@[simp] theorem ty_i : tyN (.int i) h = some "int" := id rfl
@[simp] theorem ty_b (b : Bool) : tyN (.bl b) h = some "bool" := id rfl
@[simp] theorem ty_s (b : Str) : tyN (.str b) h = some "str" := id rfl
@[simp] theorem ty_n : tyN .non h = some "NoneType" := id rfl
@[simp] theorem ty_t (xs : List D) : tyN (.tup xs) h = some "tuple" := id rfl
theorem ty_l {a : Nat} {xs : List D} (e : h.get a = some (.lst xs)) : tyN (.ref a) h = some "list" := by simp only [tyN, e]
@[simp] theorem isTn_ii : isTn "int" .int = true := by decide
@[simp] theorem isTn_ib : isTn "int" .bool = false := by decide
@[simp] theorem isTn_bi : isTn "bool" .int = true := by decide
@[simp] theorem isTn_bb : isTn "bool" .bool = true := by decide
@[simp] theorem isTn_ss : isTn "str" .str = true := by decide
@[simp] theorem isTn_tt : isTn "tuple" .tuple = true := by decide
@[simp] theorem isTn_ll : isTn "list" .list = true := by decide
@[simp] theorem ix_tup (xs : List D) : idxD (.tup xs) (.int i) h = atD xs i := id rfl
theorem ix_lst {a : Nat} {xs : List D} (e : h.get a = some (.lst xs)) : idxD (.ref a) (.int i) h = atD xs i := by simp only [idxD, e]
theorem ix_fz {a : Nat} {xs : List D} (e : h.get a = some (.fz xs)) : idxD (.ref a) (.int i) h = atD xs i := by simp only [idxD, e]
@[simp] theorem atD_0 {α : Type} (x : α) (xs : List α) : atD (x :: xs) 0 = some x := id rfl
@[simp] theorem atD_1 {α : Type} (x y : α) (xs : List α) : atD (x :: y :: xs) 1 = some y := id rfl
@[simp] theorem atD_2 {α : Type} (x y z : α) (xs : List α) : atD (x :: y :: z :: xs) 2 = some z := id rfl
@[simp] theorem atD_3 {α : Type} (x y z u : α) (xs : List α) : atD (x :: y :: z :: u :: xs) 3 = some u := id rfl
@[simp] theorem atD_4 {α : Type} (x y z u v : α) (xs : List α) : atD (x :: y :: z :: u :: v :: xs) 4 = some v := id rfl
theorem atD_nat {α : Type} (xs : List α) (k : Nat) : atD xs (k : Int) = xs[k]? := by unfold atD; rw [if_pos (Int.natCast_nonneg k)]; rfl
end

/-! ### heaps that only grow -/
structure Gro (h h' : Hm) : Prop where
  le : h.next ≤ h'.next
  at_ : ∀ a, a < h.next → h'.get a = h.get a
theorem Gro.refl {h : Hm} : Gro h h := ⟨Nat.le_refl _, fun _ _ => rfl⟩
theorem Gro.trans {h h' h'' : Hm} (a : Gro h h') (b : Gro h' h'') : Gro h h'' := ⟨Nat.le_trans a.le b.le, fun x hx => (b.at_ x (Nat.lt_of_lt_of_le hx a.le)).trans (a.at_ x hx)⟩
theorem Gro.new {h : Hm} {o : O} : Gro h (h.new o) := ⟨Nat.le_succ _, fun a ha => by rw [new_get, if_neg (Nat.ne_of_lt ha)]⟩
theorem Gro.put {h h' : Hm} {a : Nat} {o : O} (g : Gro h h') (ha : h.next ≤ a) : Gro h (h'.put a o) := ⟨g.le, fun b hb => by rw [put_get, if_neg (by omega)]; exact g.at_ b hb⟩

/-! ### loops -/
theorem stays_nil (h : Hm) : stays [] h := fun _ hp => by cases hp
theorem stays_one {a : Nat} {o : O} {h : Hm} (e : h.get a = some o) : stays [(a, o)] h := fun p hp => by
  cases hp with
  | head => exact e
  | tail _ z => cases z
/-- a for that runs through: what holds ahead of each turn -/
theorem forL_thru {fb : Env → Hm → Out} {g : Tg} {gd : List (Nat × O)} (I : List D → Env → Hm → Prop) (hs : ∀ xs env h, I xs env h → stays gd h)
    (step : ∀ x xs env h, I (x :: xs) env h → ∃ env1 env2 h2, asgT g x env = some env1 ∧ fb env1 h = some (.nx, env2, h2) ∧ I xs env2 h2) :
    ∀ xs env h, I xs env h → ∃ env' h', forL fb g gd xs env h = some (.nx, env', h') ∧ I [] env' h'
  | [], env, h, i => by
    refine ⟨env, h, ?_, i⟩
    unfold forL
    rw [if_pos (hs _ _ _ i)]
    rfl
  | x :: xs, env, h, i => by
    obtain ⟨env1, env2, h2, e1, e2, i2⟩ := step x xs env h i
    obtain ⟨env', h', e3, i3⟩ := forL_thru I hs step xs env2 h2 i2
    refine ⟨env', h', ?_, i3⟩
    unfold forL
    rw [if_pos (hs _ _ _ i), e1]
    simp only [e2, thenS_nx]
    exact e3
/-- a list comprehension without a test; the elements lay nothing into what was there -/
theorem compL_thru {fe : Env → Hm → Res D} {ft : Env → Hm → Res Bool} {g : Tg} {gd : List (Nat × O)} {a : Nat} {env : Env} (I : List D → List D → Hm → Prop) (hs : ∀ xs acc h, I xs acc h → stays gd h ∧ h.get a = some (.lst acc))
    (step : ∀ x xs acc h, I (x :: xs) acc h → ∃ env1 h1 y h2, asgT g x env = some env1 ∧ ft env1 h = some (.ok true, h1) ∧ fe env1 h1 = some (.ok y, h2) ∧ h2.get a = some (.lst acc) ∧ acc.length < lim ∧ I xs (acc ++ [y]) (h2.put a (.lst (acc ++ [y])))) :
    ∀ xs acc h, I xs acc h → ∃ ys h', compL fe ft g gd a env xs h = some (.ok (.ref a), h') ∧ I [] ys h'
  | [], acc, h, i => by
    refine ⟨acc, h, ?_, i⟩
    unfold compL
    rw [if_pos (hs _ _ _ i).1]
    rfl
  | x :: xs, acc, h, i => by
    obtain ⟨env1, h1, y, h2, e1, e2, e3, e4, e5, i2⟩ := step x xs acc h i
    obtain ⟨ys, h', e6, i3⟩ := compL_thru I hs step xs _ _ i2
    refine ⟨ys, h', ?_, i3⟩
    unfold compL
    rw [if_pos (hs _ _ _ i).1, e1]
    simp only [e2, e3, bndN_ok, if_true, e4, e5]
    exact e6

/-! ### loops, turn by turn -/
set_option checkBinderAnnotations false in
def bndNI {α β : Type} (m : Res α) [f : α → Hm → Res β] : Res β := bndN m f
@[simp] theorem bndNI_ok {α β : Type} (a : α) (h : Hm) (f : α → Hm → Res β) : @bndNI α β (some (.ok a, h)) f = f a h := id rfl
theorem forL_nil {fb : Env → Hm → Out} {g : Tg} {gd : List (Nat × O)} {env : Env} {h : Hm} (hs : stays gd h) : forL fb g gd [] env h = some (.nx, env, h) := by
  unfold forL; rw [if_pos hs]; rfl
theorem forL_cons {fb : Env → Hm → Out} {g : Tg} {gd : List (Nat × O)} {x : D} {xs : List D} {env : Env} {h : Hm} (hs : stays gd h) :
    forL fb g gd (x :: xs) env h = @someI _ _ (asgT g x env) fun env1 => @thenSI (fb env1 h) fun env2 h2 => forL fb g gd xs env2 h2 := by
  rw [forL, if_pos hs]
  cases asgT g x env <;> rfl
theorem compL_nil {fe : Env → Hm → Res D} {ft : Env → Hm → Res Bool} {g : Tg} {gd : List (Nat × O)} {a : Nat} {env : Env} {h : Hm} (hs : stays gd h) : compL fe ft g gd a env [] h = some (.ok (.ref a), h) := by
  unfold compL; rw [if_pos hs]; rfl
theorem put_self {h : Hm} {a : Nat} {o : O} (e : h.get a = some o) : h.put a o = h := by
  obtain ⟨g, n⟩ := h
  show (⟨_, _⟩ : Hm) = _
  congr 1
  funext b
  by_cases hb : b = a
  · subst hb; rw [if_pos rfl]; exact e.symm
  · rw [if_neg hb]
@[simp] theorem put_put {h : Hm} {a : Nat} {o o' : O} : (h.put a o).put a o' = h.put a o' := by
  show (⟨_, _⟩ : Hm) = ⟨_, _⟩
  congr 1
  funext b
  by_cases hb : b = a
  · rw [if_pos hb, if_pos hb]
  · rw [if_neg hb, if_neg hb]; show (if b = a then _ else _) = _; rw [if_neg hb]
@[simp] theorem new_put {h : Hm} {o o' : O} : (h.new o).put h.next o' = h.new o' := by
  show (⟨_, _⟩ : Hm) = ⟨_, _⟩
  congr 1
  funext b
  by_cases hb : b = h.next
  · rw [if_pos hb, if_pos hb]
  · rw [if_neg hb, if_neg hb]; show (if b = h.next then _ else _) = _; rw [if_neg hb]
theorem compL_pure {fe : Env → Hm → Res D} {ft : Env → Hm → Res Bool} {g : Tg} {gd : List (Nat × O)} {a : Nat} {env : Env} (F : D → D) (hgd : ∀ h : Hm, stays gd h → ∀ o, stays gd (h.put a o)) : ∀ (xs : List D) (acc : List D) (h : Hm),
    (∀ x ∈ xs, ∃ env1, asgT g x env = some env1 ∧ ∀ h, ft env1 h = some (.ok true, h) ∧ (stays gd h → fe env1 h = some (.ok (F x), h))) → stays gd h → h.get a = some (.lst acc) → acc.length + xs.length ≤ 1000000 →
    compL fe ft g gd a env xs h = some (.ok (.ref a), h.put a (.lst (acc ++ xs.map F)))
  | [], acc, h, hx, hs, ha, hl => by rw [compL_nil hs, List.map_nil, List.append_nil, put_self ha]
  | x :: xs, acc, h, hx, hs, ha, hl => by
    obtain ⟨env1, e1, e2⟩ := hx x (List.mem_cons_self ..)
    unfold compL
    rw [if_pos hs, e1]
    have hlt : acc.length < lim := by unfold lim; rw [List.length_cons] at hl; omega
    simp only [(e2 h).1, (e2 h).2 hs, bndN_ok, if_true, ha, hlt]
    rw [compL_pure F hgd xs (acc ++ [F x]) _ (fun y hy => hx y (List.mem_cons_of_mem _ hy)) (hgd h hs _) (by rw [put_get, if_pos rfl]) (by rw [List.length_append]; rw [List.length_cons] at hl; simp; omega), put_put, List.append_assoc]
    rfl
theorem comp_pure {fe : Env → Hm → Res D} {ft : Env → Hm → Res Bool} {g : Tg} {gd : List (Nat × O)} {env : Env} {h : Hm} {xs : List D} (F : D → D) (hgd : ∀ p ∈ gd, p.1 < h.next) (hs : stays gd h) (hl : xs.length ≤ 1000000)
    (hx : ∀ x ∈ xs, ∃ env1, asgT g x env = some env1 ∧ ∀ h, ft env1 h = some (.ok true, h) ∧ (stays gd h → fe env1 h = some (.ok (F x), h))) :
    compL fe ft g gd h.next env xs (h.new (.lst [])) = some (.ok (.ref h.next), h.new (.lst (xs.map F))) := by
  rw [compL_pure F (fun h1 s1 o p hp => by rw [put_get, if_neg (Nat.ne_of_lt (hgd p hp))]; exact s1 p hp) xs [] _ hx (fun p hp => by rw [new_get, if_neg (Nat.ne_of_lt (hgd p hp))]; exact hs p hp) (by rw [new_get, if_pos rfl]) (by simpa using hl), new_put]
  rfl
@[simp] theorem asgT_name (i : Nat) (x : D) (env : Env) : asgT (.name i) x env = some (env.set i (some x)) := id rfl
@[simp] theorem walk_tup (xs : List D) (h : Hm) : walk .seq [.tup xs] h = some (xs, []) := id rfl
theorem walk_lst {a : Nat} {xs : List D} {h : Hm} (e : h.get a = some (.lst xs)) : walk .seq [.ref a] h = some (xs, [(a, .lst xs)]) := by simp only [walk, e]
theorem walk_fz {a : Nat} {xs : List D} {h : Hm} (e : h.get a = some (.fz xs)) : walk .seq [.ref a] h = some (xs, [(a, .fz xs)]) := by simp only [walk, e]
@[simp] theorem walk_r1 {n : Int} (c : -(2 ^ 62) ≤ n ∧ n < 2 ^ 62) {h : Hm} : walk .range1 [.int n] h = some ((List.range n.toNat).map fun (i : Nat) => .int (i : Int), []) := if_pos c
@[simp] theorem walk_r2 {m n : Int} (c : (-(2 ^ 62) ≤ m ∧ m < 2 ^ 62) ∧ (-(2 ^ 62) ≤ n ∧ n < 2 ^ 62)) {h : Hm} : walk .range2 [.int m, .int n] h = some ((List.range (n - m).toNat).map fun (i : Nat) => .int (m + (i : Int)), []) := if_pos c
@[simp] theorem wipe_nil (env : Env) : wipeE env [] = env := id rfl
@[simp] theorem wipe_cons (env : Env) (v : Nat) (vs : List Nat) : wipeE env (v :: vs) = (wipeE env vs).set v none := id rfl
@[simp] theorem in_name (i : Nat) (own : List Nat) : (Tg.name i).in_ own = own.contains i := id rfl
/-- a for whose turns change nothing but the loop's names -/
theorem forL_quiet {fb : Env → Hm → Out} {g : Tg} {gd : List (Nat × O)} (E : Env → Prop) (G : Hm → Prop) (hs : ∀ h, G h → stays gd h) :
    ∀ (xs : List D), (∀ x ∈ xs, ∀ env h, E env → G h → ∃ env1 env2 h2, asgT g x env = some env1 ∧ fb env1 h = some (.nx, env2, h2) ∧ E env2 ∧ G h2) → ∀ env h, E env → G h → ∃ env' h', forL fb g gd xs env h = some (.nx, env', h') ∧ E env' ∧ G h' := fun xs step env h e gh => by
  obtain ⟨env', h', e1, i1, i2⟩ := forL_thru (fb := fb) (g := g) (gd := gd) (fun ys env h => (∀ y ∈ ys, y ∈ xs) ∧ E env ∧ G h) (fun _ _ h i => hs h i.2.2)
    (fun y ys env h i => by
      obtain ⟨env1, env2, h2, a1, a2, a3, a4⟩ := step y (i.1 y (List.mem_cons_self ..)) env h i.2.1 i.2.2
      exact ⟨env1, env2, h2, a1, a2, fun z hz => i.1 z (List.mem_cons_of_mem _ hz), a3, a4⟩) xs env h ⟨fun _ hy => hy, e, gh⟩
  exact ⟨env', h', e1, i2⟩
theorem slc_fz {a : Nat} {xs : List D} {lo hi : Option Int} {h : Hm} (e : h.get a = some (.fz xs)) : slcD (.ref a) lo hi h = some (.ok (.ref h.next), h.new (.lst (cut xs lo hi))) := by simp only [slcD, e]; rfl
theorem slc_lst {a : Nat} {xs : List D} {lo hi : Option Int} {h : Hm} (e : h.get a = some (.lst xs)) : slcD (.ref a) lo hi h = some (.ok (.ref h.next), h.new (.lst (cut xs lo hi))) := by simp only [slcD, e]; rfl
@[simp] theorem h0_get (ns : List Int) : (h0 ns).get 0 = some (.fz (ns.map D.int)) := id rfl
@[simp] theorem h0_next (ns : List Int) : (h0 ns).next = 1 := id rfl
/-- the first ones -/
theorem cut_to {α : Type} (xs : List α) (k : Nat) : cut xs none (some (k : Int)) = xs.take k := by
  unfold cut sI
  dsimp only
  rw [if_neg (by omega), Int.toNat_natCast, List.drop_zero, Nat.sub_zero]
  by_cases hk : k ≤ xs.length
  · rw [Nat.min_eq_left hk]
  · rw [Nat.min_eq_right (by omega), List.take_of_length_le (Nat.le_refl _), List.take_of_length_le (by omega)]
theorem cut_whole {α : Type} (xs : List α) (k : Nat) (hk : xs.length ≤ k) : cut xs none (some (k : Int)) = xs := by rw [cut_to, List.take_of_length_le hk]

/-! ### by what stands in the heap -/
@[simp] theorem lim_eq : lim = 1000000 := id rfl
section
variable {a : Nat} {h : Hm} {xs : List D} {v x : D} {i : Int}
def walkO (o : Option O) (a : Nat) : Option (List D × List (Nat × O)) := match o with
  | some (.lst xs) => some (xs, [(a, .lst xs)])
  | some (.fz xs) => some (xs, [(a, .fz xs)])
  | _ => none
@[simp] theorem walk_ref : walk .seq [.ref a] h = walkO (h.get a) a := id rfl
@[simp] theorem walkO_l : walkO (some (.lst xs)) a = some (xs, [(a, .lst xs)]) := id rfl
@[simp] theorem walkO_f : walkO (some (.fz xs)) a = some (xs, [(a, .fz xs)]) := id rfl
def seqO (o : Option O) : Option (List D) := match o with
  | some (.lst xs) => some xs
  | some (.fz xs) => some xs
  | _ => none
@[simp] theorem seqO_l : seqO (some (.lst xs)) = some xs := id rfl
@[simp] theorem seqO_f : seqO (some (.fz xs)) = some xs := id rfl
@[simp] theorem seqOf_ref : seqOf (.ref a) h = seqO (h.get a) := id rfl
@[simp] theorem seqOf_tup : seqOf (.tup xs) h = some xs := id rfl
@[simp] theorem lstOf_ref : lstOf (.ref a) h = seqO (h.get a) := id rfl
def atO (o : Option (List D)) (i : Int) : Option D := match o with
  | some xs => atD xs i
  | none => none
@[simp] theorem atO_s : atO (some xs) i = atD xs i := id rfl
@[simp] theorem idx_ref : idxD (.ref a) (.int i) h = atO (seqO (h.get a)) i := by
  cases e : h.get a with
  | none => simp only [idxD, e]; rfl
  | some o => cases o <;> (simp only [idxD, e]; rfl)
def slcO (o : Option (List D)) (lo hi : Option Int) (h : Hm) : Res D := match o with
  | some xs => some (.ok (.ref h.next), h.new (.lst (cut xs lo hi)))
  | none => none
@[simp] theorem slcO_s {lo hi : Option Int} : slcO (some xs) lo hi h = some (.ok (.ref h.next), h.new (.lst (cut xs lo hi))) := id rfl
@[simp] theorem slc_ref {lo hi : Option Int} : slcD (.ref a) lo hi h = slcO (seqO (h.get a)) lo hi h := by
  cases e : h.get a with
  | none => simp only [slcD, e]; rfl
  | some o => cases o <;> (simp only [slcD, e]; rfl)
@[simp] theorem slc_tup {lo hi : Option Int} : slcD (.tup xs) lo hi h = some (.ok (.tup (cut xs lo hi)), h) := id rfl
def lenO (o : Option O) (h : Hm) : Res D := match o with
  | some (.lst xs) => ok (.int xs.length) h
  | some (.fz xs) => ok (.int xs.length) h
  | some (.dic kvs) => ok (.int kvs.length) h
  | _ => none
@[simp] theorem lenO_l : lenO (some (.lst xs)) h = some (.ok (.int xs.length), h) := id rfl
@[simp] theorem lenO_f : lenO (some (.fz xs)) h = some (.ok (.int xs.length), h) := id rfl
@[simp] theorem len_ref : biD .len [.ref a] h = lenO (h.get a) h := id rfl
def addO (o o' : Option O) (h : Hm) : Res D := match o, o' with
  | some (.lst xs), some (.lst ys) => if xs.length + ys.length ≤ 1000000 then some (.ok (.ref h.next), h.new (.lst (xs ++ ys))) else none
  | _, _ => none
@[simp] theorem addO_l {ys : List D} (c : xs.length + ys.length ≤ 1000000) : addO (some (.lst xs)) (some (.lst ys)) h = some (.ok (.ref h.next), h.new (.lst (xs ++ ys))) := if_pos c
@[simp] theorem add_ref {b : Nat} : binD .add (.ref a) (.ref b) h = addO (h.get a) (h.get b) h := by
  cases e : h.get a with
  | none => simp only [binD, e]; rfl
  | some o => cases o <;> (simp only [binD, e]; rfl)
def appO (o : Option O) (a : Nat) (v : D) (h : Hm) : Res D := match o with
  | some (.lst xs) => if xs.length < 1000000 then some (.ok .non, h.put a (.lst (xs ++ [v]))) else none
  | _ => none
@[simp] theorem appO_l (c : xs.length < 1000000) : appO (some (.lst xs)) a v h = some (.ok .non, h.put a (.lst (xs ++ [v]))) := if_pos c
@[simp] theorem app_ref : bmD .append (.ref a) [v] h = appO (h.get a) a v h := by
  cases e : h.get a with
  | none => simp only [bmD, e]; rfl
  | some o => cases o <;> (simp only [bmD, e]; rfl)
@[simp] theorem rcv_app : rcv .append x h = (lstOf x h).isSome := id rfl
@[simp] theorem rcv_pop : rcv .pop x h = (lstOf x h).isSome := id rfl
def popO (o : Option O) (a : Nat) (h : Hm) : Res D := match o with
  | some (.lst xs) => (match xs.getLast? with
    | some y => some (.ok y, h.put a (.lst xs.dropLast))
    | none => none)
  | _ => none
@[simp] theorem popO_l {y : D} : popO (some (.lst (xs ++ [y]))) a h = some (.ok y, h.put a (.lst xs)) := by
  simp [popO]
@[simp] theorem pop_ref : bmD .pop (.ref a) [] h = popO (h.get a) a h := by
  cases e : h.get a with
  | none => simp only [bmD, e]; rfl
  | some o => cases o <;> (simp only [bmD, e]; rfl)
def tyO (o : Option O) : Option String := match o with
  | some (.lst _) => some "list"
  | some (.fz _) => some "list"
  | some (.dic _) => some "dict"
  | _ => none
@[simp] theorem tyO_l : tyO (some (.lst xs)) = some "list" := id rfl
@[simp] theorem tyO_f : tyO (some (.fz xs)) = some "list" := id rfl
@[simp] theorem ty_ref : tyN (.ref a) h = tyO (h.get a) := id rfl
def truO (o : Option O) : Option Bool := match o with
  | some (.lst xs) => some (!xs.isEmpty)
  | some (.fz xs) => some (!xs.isEmpty)
  | some (.dic kvs) => some (!kvs.isEmpty)
  | _ => none
@[simp] theorem truO_l : truO (some (.lst xs)) = some (!xs.isEmpty) := id rfl
@[simp] theorem tru_ref : truD (.ref a) h = truO (h.get a) := id rfl
@[simp] theorem tru_tup : truD (.tup xs) h = some (!xs.isEmpty) := id rfl
/-- what list(x) holds -/
def seqK (x : D) (h : Hm) : Option (List D) := match seqOf x h with
  | some xs => some xs
  | none => (match x with
    | .ref a => (match h.get a with
      | some (.dic kvs) => some (kvs.map fun kv => keyD kv.1)
      | _ => none)
    | _ => none)
def seqKO (o : Option O) : Option (List D) := match o with
  | some (.lst xs) => some xs
  | some (.fz xs) => some xs
  | some (.dic kvs) => some (kvs.map fun kv => keyD kv.1)
  | _ => none
@[simp] theorem seqKO_l {xs : List D} : seqKO (some (.lst xs)) = some xs := id rfl
@[simp] theorem seqKO_f {xs : List D} : seqKO (some (.fz xs)) = some xs := id rfl
@[simp] theorem seqKO_d {kvs : List (L2.Key × D)} : seqKO (some (.dic kvs)) = some (kvs.map fun kv => keyD kv.1) := id rfl
@[simp] theorem seqK_tup {xs : List D} : seqK (.tup xs) h = some xs := id rfl
@[simp] theorem seqK_ref {a : Nat} : seqK (.ref a) h = seqKO (h.get a) := by
  cases e : h.get a with
  | none => simp only [seqK, seqOf, e]; rfl
  | some o => cases o <;> (simp only [seqK, seqOf, e]; rfl)
@[simp] theorem bi_list : biD .list [x] h = @someI _ _ (seqK x h) fun xs => some (.ok (.ref h.next), h.new (.lst xs)) := by
  unfold seqK
  simp only [biD]
  cases e : seqOf x h with
  | some xs => rfl
  | none =>
    cases x with
    | ref a =>
      dsimp only
      cases e2 : h.get a with
      | none => rfl
      | some o => cases o <;> rfl
    | _ => rfl
@[simp] theorem bi_tuple : biD .tuple [x] h = @someI _ _ (seqOf x h) fun xs => some (.ok (.tup xs), h) := by
  cases e : seqOf x h <;> (simp only [biD, e]; rfl)
end
@[simp] theorem stays_nl (h : Hm) : stays [] h ↔ True := ⟨fun _ => trivial, fun _ => stays_nil h⟩
@[simp] theorem stays_cons (a : Nat) (o : O) (r : List (Nat × O)) (h : Hm) : stays ((a, o) :: r) h ↔ h.get a = some o ∧ stays r h :=
  ⟨fun s => ⟨s _ (List.mem_cons_self ..), fun p hp => s p (List.mem_cons_of_mem _ hp)⟩, fun s p hp => by
    cases hp with
    | head => exact s.1
    | tail _ z => exact s.2 p z⟩

/-! ### normal forms of heaps, unrolled loops -/
section
variable {h : Hm} {a : Nat} {o o' : O}
@[simp high] theorem new_get_lt (c : a < h.next) : (h.new o).get a = h.get a := by rw [new_get, if_neg (Nat.ne_of_lt c)]
@[simp high] theorem put_get_ne {b : Nat} (c : a ≠ b) : (h.put b o).get a = h.get a := by rw [put_get, if_neg c]
@[simp] theorem new_put_eq (c : a = h.next) : (h.new o).put a o' = h.new o' := by rw [c, new_put]
@[simp] theorem new_put_lt (c : a < h.next) : (h.new o).put a o' = (h.put a o').new o := by
  show (⟨_, _⟩ : Hm) = ⟨_, _⟩
  congr 1
  funext b
  show (if b = a then _ else if b = h.next then _ else _) = if b = h.next then _ else if b = a then _ else _
  by_cases hb : b = a
  · rw [if_pos hb, if_neg (by omega), if_pos hb]
  · rw [if_neg hb, if_neg hb]
@[simp] theorem new2_put {o1 o2 : O} : ((h.new o1).new o2).put (h.next + 1) o = (h.new o1).new o := new_put
@[simp] theorem new3_put {o1 o2 o3 : O} : (((h.new o1).new o2).new o3).put (h.next + 1 + 1) o = ((h.new o1).new o2).new o := new_put
@[simp] theorem new4_put {o1 o2 o3 o4 : O} : ((((h.new o1).new o2).new o3).new o4).put (h.next + 1 + 1 + 1) o = (((h.new o1).new o2).new o3).new o := new_put
theorem gro_new {h' : Hm} (g : Gro h h') : Gro h (h'.new o) := g.trans .new
end
theorem compL_cons {fe : Env → Hm → Res D} {ft : Env → Hm → Res Bool} {g : Tg} {gd : List (Nat × O)} {a : Nat} {env : Env} {x : D} {xs : List D} {h : Hm} (hs : stays gd h) :
    compL fe ft g gd a env (x :: xs) h = @someI _ _ (asgT g x env) fun env1 => @bndNI _ _ (ft env1 h) fun b h2 => if b = true then @bndNI _ _ (fe env1 h2) fun y h3 => @lstI _ (h3.get a) fun acc => if acc.length < 1000000 then compL fe ft g gd a env xs (h3.put a (.lst (acc ++ [y]))) else none else compL fe ft g gd a env xs h2 := by
  rw [compL, if_pos hs]
  cases asgT g x env with
  | none => rfl
  | some env1 =>
    refine congrArg (bndN (ft env1 h)) (funext fun b => funext fun h2 => ?_)
    by_cases hb : b = true
    · rw [if_pos hb, if_pos hb]
      refine congrArg (bndN (fe env1 h2)) (funext fun y => funext fun h3 => ?_)
      cases e : h3.get a with
      | none => rfl
      | some o => cases o <;> rfl
    · rw [if_neg hb, if_neg hb]

/-! ### comprehensions by a function -/
theorem compL_mapA {α : Type} {fe : Env → Hm → Res D} {ft : Env → Hm → Res Bool} {g : Tg} {gd : List (Nat × O)} {a : Nat} {env : Env} (A G : α → D) (hgd : ∀ h : Hm, stays gd h → ∀ o, stays gd (h.put a o)) : ∀ (cs : List α) (acc : List D) (h : Hm),
    (∀ c ∈ cs, ∃ env1, asgT g (A c) env = some env1 ∧ ∀ h, ft env1 h = some (.ok true, h) ∧ (stays gd h → fe env1 h = some (.ok (G c), h))) → stays gd h → h.get a = some (.lst acc) → acc.length + cs.length ≤ 1000000 →
    compL fe ft g gd a env (cs.map A) h = some (.ok (.ref a), h.put a (.lst (acc ++ cs.map G)))
  | [], acc, h, hx, hs, ha, hl => by rw [List.map_nil, compL_nil hs, List.map_nil, List.append_nil, put_self ha]
  | x :: xs, acc, h, hx, hs, ha, hl => by
    obtain ⟨env1, e1, e2⟩ := hx x (List.mem_cons_self ..)
    rw [List.map_cons]
    unfold compL
    rw [if_pos hs, e1]
    have hlt : acc.length < lim := by unfold lim; rw [List.length_cons] at hl; omega
    simp only [(e2 h).1, (e2 h).2 hs, bndN_ok, if_true, ha, hlt]
    rw [compL_mapA A G hgd xs (acc ++ [G x]) _ (fun y hy => hx y (List.mem_cons_of_mem _ hy)) (hgd h hs _) (by rw [put_get, if_pos rfl]) (by rw [List.length_append]; rw [List.length_cons] at hl; simp; omega), put_put, List.append_assoc]
    rfl
theorem compL_map {α : Type} {fe : Env → Hm → Res D} {ft : Env → Hm → Res Bool} {g : Tg} {gd : List (Nat × O)} {a : Nat} {env : Env} {cs : List α} {h : Hm} (A G : α → D) (hgd : ∀ p ∈ gd, p.1 ≠ a)
    (hx : ∀ c ∈ cs, ∃ env1, asgT g (A c) env = some env1 ∧ ∀ h, ft env1 h = some (.ok true, h) ∧ (stays gd h → fe env1 h = some (.ok (G c), h))) (hs : stays gd h) (ha : h.get a = some (.lst [])) (hl : cs.length ≤ 1000000) :
    compL fe ft g gd a env (cs.map A) h = some (.ok (.ref a), h.put a (.lst (cs.map G))) := by
  rw [compL_mapA A G (fun h1 s1 o p hp => by rw [put_get, if_neg (hgd p hp)]; exact s1 p hp) cs [] h hx hs ha (by simpa using hl)]
  rfl
theorem atD_succ {α : Type} (xs : List α) (k : Nat) : atD xs ((k : Int) + 1) = xs[k + 1]? := atD_nat xs (k + 1)

/-- a for whose turns keep E of the names, G of the heap; what comes behind it -/
theorem quiet {fb : Env → Hm → Out} {g : Tg} {gd : List (Nat × O)} {xs : List D} {env : Env} {h : Hm} {k : Env → Hm → Out} (P : Res D → Prop) (E : Env → Prop) (G : Hm → Prop) (e0 : E env) (g0 : G h) (hs : ∀ h, G h → stays gd h)
    (step : ∀ x ∈ xs, ∀ env h, E env → G h → ∃ env1 env2 h2, asgT g x env = some env1 ∧ fb env1 h = some (.nx, env2, h2) ∧ E env2 ∧ G h2)
    (post : ∀ env' h', E env' → G h' → P (endF (k env' h'))) : P (endF (@thenSI (forL fb g gd xs env h) k)) := by
  obtain ⟨env', h', e1, e2, e3⟩ := forL_quiet E G hs xs step env h e0 g0
  rw [e1]
  exact post env' h' e2 e3
theorem Gro.get {h h' : Hm} (g : Gro h h') {a : Nat} {o : Option O} (e : h.get a = o) (l : a < h.next) : h'.get a = o := (g.at_ a l).trans e
end Z

set_option maxRecDepth 100000
set_option maxHeartbeats 2000000
/-! ZO: loops by a state. -/
namespace Z
open PySem
theorem forL_run {α σ : Type} {fb : Env → Hm → Out} {g : Tg} {gd : List (Nat × O)} (A : α → D) (S : σ → Env) (H : σ → Hm) (f : σ → α → σ) (I : σ → Prop) (hs : ∀ s, I s → stays gd (H s)) : ∀ {cs : List α},
    (∀ s, I s → ∀ c ∈ cs, I (f s c) ∧ ∃ env1, asgT g (A c) (S s) = some env1 ∧ fb env1 (H s) = some (.nx, S (f s c), H (f s c))) → ∀ {s : σ}, I s → forL fb g gd (cs.map A) (S s) (H s) = some (.nx, S (cs.foldl f s), H (cs.foldl f s))
  | [], _, s, i => forL_nil (hs s i)
  | c :: cs, step, s, i => by
    obtain ⟨i2, env1, e1, e2⟩ := step s i c (List.mem_cons_self ..)
    rw [List.map_cons, forL_cons (hs s i), e1, someI_some, e2, thenSI_nx]
    exact forL_run A S H f I hs (fun s i c hc => step s i c (List.mem_cons_of_mem _ hc)) i2
/-- the same, the start by equations -/
theorem forL_go {α σ : Type} {fb : Env → Hm → Out} {g : Tg} {gd : List (Nat × O)} {cs : List α} {env : Env} {h : Hm} (A : α → D) (S : σ → Env) (H : σ → Hm) (f : σ → α → σ) (I : σ → Prop) (s : σ) (eS : S s = env) (eH : H s = h) (i : I s) (hs : ∀ s, I s → stays gd (H s))
    (step : ∀ s, I s → ∀ c ∈ cs, I (f s c) ∧ ∃ env1, asgT g (A c) (S s) = some env1 ∧ fb env1 (H s) = some (.nx, S (f s c), H (f s c))) : forL fb g gd (cs.map A) env h = some (.nx, S (cs.foldl f s), H (cs.foldl f s)) := by
  subst eS eH
  exact forL_run A S H f I hs step i
/-- a loop by what was done so far -/
theorem forL_pre {α : Type} {fb : Env → Hm → Out} {g : Tg} {gd : List (Nat × O)} {cs : List α} {env : Env} {h : Hm} (A : α → D) (S : List α → Env) (H : List α → Hm) (eS : S [] = env) (eH : H [] = h) (hs : ∀ done rest, cs = done ++ rest → stays gd (H done))
    (step : ∀ done c rest, cs = done ++ c :: rest → ∃ env1, asgT g (A c) (S done) = some env1 ∧ fb env1 (H done) = some (.nx, S (done ++ [c]), H (done ++ [c]))) : forL fb g gd (cs.map A) env h = some (.nx, S cs, H cs) := by
  have key : ∀ (rest done : List α), cs = done ++ rest → forL fb g gd (rest.map A) (S done) (H done) = some (.nx, S cs, H cs) := fun rest => by
    induction rest with
    | nil =>
      intro done e
      rw [List.append_nil] at e
      subst e
      exact forL_nil (hs _ [] (by rw [List.append_nil]))
    | cons c rest ih =>
      intro done e
      obtain ⟨env1, e1, e2⟩ := step done c rest e
      rw [List.map_cons, forL_cons (hs done _ e), e1, someI_some, e2, thenSI_nx]
      exact ih (done ++ [c]) (by rw [e, List.append_assoc]; rfl)
  rw [← eS, ← eH]
  exact key cs [] rfl
/-- a loop's name behind it -/
def lastV {α : Type} (A : α → D) (l : Option D) (done : List α) : Option D := match done.getLast? with
  | some c => some (A c)
  | none => l
@[simp] theorem lastV_snoc {α : Type} (A : α → D) (l : Option D) (done : List α) (c : α) : lastV A l (done ++ [c]) = some (A c) := by unfold lastV; simp
@[simp] theorem lastV_nil {α : Type} (A : α → D) (l : Option D) : lastV A l [] = l := id rfl
theorem forL_inv {α σ : Type} {fb : Env → Hm → Out} {g : Tg} {gd : List (Nat × O)} (A : α → D) (S : σ → Env) (H : σ → Hm) (f : σ → α → σ) (I : σ → Prop) : ∀ {cs : List α}, (∀ s, I s → ∀ c ∈ cs, I (f s c)) → ∀ {s : σ}, I s → I (cs.foldl f s)
  | [], _, _, i => i
  | c :: cs, step, s, i => forL_inv (fb := fb) (g := g) (gd := gd) A S H f I (fun s i c hc => step s i c (List.mem_cons_of_mem _ hc)) (step s i c (List.mem_cons_self ..))
theorem foldl_fst {α β γ : Type} (f : β → α → β) (k : β → γ → α → γ) : ∀ (cs : List α) (b : β) (c : γ), (cs.foldl (fun (s : β × γ) x => (f s.1 x, k s.1 s.2 x)) (b, c)).1 = cs.foldl f b
  | [], _, _ => rfl
  | x :: xs, b, c => foldl_fst f k xs (f b x) (k b c x)
section
variable {h : Hm} {i j : Int}
@[simp] theorem b_pow (c : 0 ≤ j ∧ j ≤ 1000000 ∧ -(2 ^ 64) < i ∧ i < 2 ^ 64) : binD .pow (.int i) (.int j) h = some (.ok (.int (i ^ j.toNat)), h) := if_pos ⟨c.1, c.2.1, c.2.2⟩
end
/-- the script's cell, or 0 -/
def cell (ns : List Int) (k : Nat) : Int := (ns[k]?).getD 0
theorem at_script (ns : List Int) (k : Nat) (hk : k < ns.length) : atD (ns.map D.int) (k : Int) = some (.int (cell ns k)) := by
  rw [atD_nat, List.getElem?_map]
  unfold cell
  rw [List.getElem?_eq_getElem hk]
  rfl
theorem cell_out (ns : List Int) (k : Nat) (hk : ¬ k < ns.length) : cell ns k = 0 := by
  unfold cell
  rw [List.getElem?_eq_none (by omega)]
  rfl

@[simp] theorem atD_lit {α : Type} (xs : List α) (k : Nat) : atD xs (no_index (@OfNat.ofNat Int k _)) = xs[k]? := atD_nat xs k
section
variable {h : Hm} {x : D} {xs : List D}
@[simp] theorem in_tup : cmpD .inn x (.tup xs) h = inL x xs := id rfl
@[simp] theorem nin_tup : cmpD .nin x (.tup xs) h = (inL x xs).map fun b => !b := id rfl
def inO (x : D) (o : Option (List D)) : Option Bool := match o with
  | some xs => inL x xs
  | none => none
@[simp] theorem inO_s : inO x (some xs) = inL x xs := id rfl
@[simp] theorem aug_add (i j : Int) : augD .add (.int i) (.int j) = some (.int (i + j)) := id rfl
@[simp] theorem aug_sub (i j : Int) : augD .sub (.int i) (.int j) = some (.int (i - j)) := id rfl
@[simp] theorem c_eqB (a b : Bool) : cmpD .eq (.bl a) (.bl b) h = some (decide (a = b)) := id rfl
@[simp] theorem c_neB (a b : Bool) : cmpD .ne (.bl a) (.bl b) h = some (!decide (a = b)) := id rfl
@[simp] theorem c_isNN : cmpD .isN .non .non h = some true := id rfl
@[simp] theorem c_notNN : cmpD .notN .non .non h = some false := id rfl
@[simp] theorem c_isNi (i : Int) : cmpD .isN (.int i) .non h = some false := id rfl
@[simp] theorem c_notNi (i : Int) : cmpD .notN (.int i) .non h = some true := id rfl
@[simp] theorem c_isNr (i : Nat) : cmpD .isN (.ref i) .non h = some false := id rfl
@[simp] theorem c_notNr (i : Nat) : cmpD .notN (.ref i) .non h = some true := id rfl
@[simp] theorem c_isNs (i : Str) : cmpD .isN (.str i) .non h = some false := id rfl
@[simp] theorem c_notNs (i : Str) : cmpD .notN (.str i) .non h = some true := id rfl
@[simp] theorem c_isNt (i : List D) : cmpD .isN (.tup i) .non h = some false := id rfl
@[simp] theorem c_notNt (i : List D) : cmpD .notN (.tup i) .non h = some true := id rfl
@[simp] theorem flat_i (i : Int) : flatD (.int i) = true := id rfl
@[simp] theorem flat_s (i : Str) : flatD (.str i) = true := id rfl
@[simp] theorem flat_b (i : Bool) : flatD (.bl i) = true := id rfl
@[simp] theorem flat_n : flatD .non = true := id rfl
@[simp] theorem eqF_s (a b : Str) : eqF (.str a) (.str b) = decide (a = b) := by show (a == b) = _; rw [Bool.eq_iff_iff, beq_iff_eq, decide_eq_true_eq]
@[simp] theorem eqF_i (a b : Int) : eqF (.int a) (.int b) = decide (a = b) := by show (a == b) = _; rw [Bool.eq_iff_iff, beq_iff_eq, decide_eq_true_eq]
theorem inL_flat (hx : flatD x = true) (hs : xs.all flatD = true) : inL x xs = some (xs.any fun y => eqF y x) := if_pos ⟨hx, hs⟩
@[simp] theorem inL_s (s : Str) : inL (.str s) xs = if xs.all flatD = true then some (xs.any fun y => eqF y (.str s)) else none := by
  unfold inL
  by_cases hs : xs.all flatD = true
  · rw [if_pos hs, if_pos ⟨rfl, hs⟩]
  · rw [if_neg hs, if_neg fun z => hs z.2]
@[simp] theorem inL_i (s : Int) : inL (.int s) xs = if xs.all flatD = true then some (xs.any fun y => eqF y (.int s)) else none := by
  unfold inL
  by_cases hs : xs.all flatD = true
  · rw [if_pos hs, if_pos ⟨rfl, hs⟩]
  · rw [if_neg hs, if_neg fun z => hs z.2]
end
/-! ### == of data -/
def eqPP (p q : Option PyData) : Option Bool := match p, q with
  | some d, some e => if (SeqAt.shaped d && SeqAt.shaped e) = true then some (PyData.eqv d e) else none
  | _, _ => none
def datO (f : D → Option PyData) (o : Option O) : Option PyData := match o with
  | some (.lst xs) => (mapO f xs).map .list
  | some (.fz xs) => (mapO f xs).map .list
  | _ => none
section
variable {h : Hm} {n : Nat}
@[simp] theorem eq_rr (a b : Nat) : cmpD .eq (.ref a) (.ref b) h = eqPP (dat h 30 (.ref a)) (dat h 30 (.ref b)) := id rfl
@[simp] theorem ne_rr (a b : Nat) : cmpD .ne (.ref a) (.ref b) h = (eqPP (dat h 30 (.ref a)) (dat h 30 (.ref b))).map fun b => !b := id rfl
@[simp] theorem eq_tt (a b : List D) : cmpD .eq (.tup a) (.tup b) h = eqPP (dat h 30 (.tup a)) (dat h 30 (.tup b)) := id rfl
@[simp] theorem ne_tt (a b : List D) : cmpD .ne (.tup a) (.tup b) h = (eqPP (dat h 30 (.tup a)) (dat h 30 (.tup b))).map fun b => !b := id rfl
@[simp] theorem dat_ref (a : Nat) : dat h (n + 1) (.ref a) = datO (dat h n) (h.get a) := by
  rw [dat]
  cases h.get a with
  | none => rfl
  | some o => cases o <;> rfl
@[simp] theorem dat_tup (xs : List D) : dat h (n + 1) (.tup xs) = (mapO (dat h n) xs).map .tuple := by rw [dat]
@[simp] theorem dat_int (i : Int) : dat h n (.int i) = some (.int i) := by cases n <;> rw [dat]
@[simp] theorem dat_str (i : Str) : dat h n (.str i) = some (.str i) := by cases n <;> rw [dat]
@[simp] theorem dat_bl (i : Bool) : dat h n (.bl i) = some (.bool i) := by cases n <;> rw [dat]
@[simp] theorem dat_non : dat h n .non = some .none := by cases n <;> rw [dat]
@[simp] theorem datO_l (f : D → Option PyData) (xs : List D) : datO f (some (.lst xs)) = (mapO f xs).map .list := id rfl
@[simp] theorem datO_f (f : D → Option PyData) (xs : List D) : datO f (some (.fz xs)) = (mapO f xs).map .list := id rfl
@[simp] theorem mapO_nil {α β : Type} (f : α → Option β) : mapO f [] = some [] := id rfl
theorem mapO_cons {α β : Type} (f : α → Option β) (x : α) (xs : List α) {y : β} {ys : List β} (e : f x = some y) (e2 : mapO f xs = some ys) : mapO f (x :: xs) = some (y :: ys) := by simp only [mapO, e, e2]
theorem mapO_map {α β γ : Type} (f : β → Option γ) (A : α → β) (B : α → γ) : ∀ cs : List α, (∀ c ∈ cs, f (A c) = some (B c)) → mapO f (cs.map A) = some (cs.map B)
  | [], _ => rfl
  | c :: cs, hx => mapO_cons f _ _ (hx c (List.mem_cons_self ..)) (mapO_map f A B cs fun x h => hx x (List.mem_cons_of_mem _ h))
@[simp] theorem mapO_ints (us : List Int) : mapO (dat h n) (us.map D.int) = some (us.map PyData.int) := mapO_map _ _ _ us fun c _ => dat_int c
theorem lay_ints : ∀ us : List Int, PyData.canLayAll0 (us.map PyData.int) = true
  | [] => by simp only [List.map_nil, PyData.canLayAll0]
  | x :: xs => by simp only [List.map_cons, PyData.canLayAll0, PyData.canLay0, lay_ints xs, Bool.and_self]
theorem dep_ints : ∀ us : List Int, PyData.depthAll (us.map PyData.int) = 0
  | [] => by simp only [List.map_nil, PyData.depthAll]
  | x :: xs => by simp only [List.map_cons, PyData.depthAll, PyData.depth, dep_ints xs, Nat.max_self]
theorem sh_ints (us : List Int) : SeqAt.shaped (.list (us.map PyData.int)) = true := by
  simp only [SeqAt.shaped, PyData.canLay0, PyData.depth, lay_ints, dep_ints]
  rfl
@[simp] theorem eqPP_ints (us vs : List Int) : eqPP (some (.list (us.map .int))) (some (.list (vs.map .int))) = some (decide (us = vs)) := by
  simp only [eqPP, sh_ints, Bool.and_self, if_true, PyData.eqv, PySem.W.ked_eqvAll]
@[simp] theorem eqPP_nil : eqPP (some (.list [])) (some (.list [])) = some true := eqPP_ints [] []
@[simp] theorem eqPP_nilR (us : List Int) : eqPP (some (.list (us.map .int))) (some (.list [])) = some (decide (us = [])) := eqPP_ints us []
@[simp] theorem eqPP_nilL (us : List Int) : eqPP (some (.list [])) (some (.list (us.map .int))) = some (decide ([] = us)) := eqPP_ints [] us
end
theorem compL_i {α : Type} {fe : Env → Hm → Res D} {ft : Env → Hm → Res Bool} {g : Tg} {gd : List (Nat × O)} {a : Nat} {env : Env} {cs : List α} {h : Hm} (A : α → D) (f : α → Int) (hgd : ∀ p ∈ gd, p.1 ≠ a)
    (hx : ∀ c ∈ cs, ∃ env1, asgT g (A c) env = some env1 ∧ ∀ h, ft env1 h = some (.ok true, h) ∧ (stays gd h → fe env1 h = some (.ok (.int (f c)), h))) (hs : stays gd h) (ha : h.get a = some (.lst [])) (hl : cs.length ≤ 1000000) :
    compL fe ft g gd a env (cs.map A) h = some (.ok (.ref a), h.put a (.lst ((cs.map f).map D.int))) := by
  rw [compL_map A (fun c => .int (f c)) hgd hx hs ha hl, List.map_map]
  rfl
theorem cut_init {α : Type} (xs : List α) : cut xs none (some (-1)) = xs.dropLast := by
  unfold cut sI
  dsimp only
  rw [if_pos (by omega), List.drop_zero, Nat.sub_zero, List.dropLast_eq_take]
  congr 1
  omega

@[simp] theorem atD_last {α : Type} (xs : List α) (x : α) : atD (xs ++ [x]) (-1) = some x := by
  unfold atD
  rw [if_neg (by omega), if_pos (by rw [List.length_append]; simp; omega)]
  have e : ((-1 : Int) + ((xs ++ [x]).length : Int)).toNat = xs.length := by rw [List.length_append]; simp; omega
  rw [e]
  simp
@[simp] theorem walk_revR {a : Nat} {h : Hm} : walk .rev [.ref a] h = (walkO (h.get a) a).map fun p => (p.1.reverse, p.2) := by
  cases e : h.get a with
  | none => simp only [walk, e]; rfl
  | some o => cases o <;> (simp only [walk, e]; rfl)
@[simp] theorem walk_revT {xs : List D} {h : Hm} : walk .rev [.tup xs] h = some (xs.reverse, []) := id rfl
@[simp] theorem walk_r3 {i j c : Int} (z : (c = 2 ∨ c = 7) ∧ (-(2 ^ 62) ≤ i ∧ i < 2 ^ 62) ∧ (-(2 ^ 62) ≤ j ∧ j < 2 ^ 62)) {h : Hm} : walk .range3 [.int i, .int j, .int c] h = some ((List.range (if i < j then (j - i - 1) / c + 1 else 0).toNat).map fun (k : Nat) => .int (i + (k : Int) * c), []) := if_pos z
/-- a comprehension over a heap of which G is known -/
theorem compL_gA {α : Type} {fe : Env → Hm → Res D} {ft : Env → Hm → Res Bool} {g : Tg} {gd : List (Nat × O)} {a : Nat} {env : Env} (A F : α → D) (G : Hm → Prop) (hs : ∀ h, G h → stays gd h) (hp : ∀ h o, G h → G (h.put a o)) : ∀ (cs : List α) (acc : List D) (h : Hm),
    (∀ c ∈ cs, ∃ env1, asgT g (A c) env = some env1 ∧ ∀ h, G h → ft env1 h = some (.ok true, h) ∧ fe env1 h = some (.ok (F c), h)) → G h → h.get a = some (.lst acc) → acc.length + cs.length ≤ 1000000 →
    compL fe ft g gd a env (cs.map A) h = some (.ok (.ref a), h.put a (.lst (acc ++ cs.map F)))
  | [], acc, h, hx, g0, ha, hl => by rw [List.map_nil, compL_nil (hs h g0), List.map_nil, List.append_nil, put_self ha]
  | x :: xs, acc, h, hx, g0, ha, hl => by
    obtain ⟨env1, e1, e2⟩ := hx x (List.mem_cons_self ..)
    rw [List.map_cons]
    unfold compL
    rw [if_pos (hs h g0), e1]
    have hlt : acc.length < lim := by unfold lim; rw [List.length_cons] at hl; omega
    simp only [(e2 h g0).1, (e2 h g0).2, bndN_ok, if_true, ha, hlt]
    rw [compL_gA A F G hs hp xs (acc ++ [F x]) _ (fun y hy => hx y (List.mem_cons_of_mem _ hy)) (hp _ _ g0) (by rw [put_get, if_pos rfl]) (by rw [List.length_append]; rw [List.length_cons] at hl; simp; omega), put_put, List.append_assoc]
    rfl
theorem compL_g {α : Type} {fe : Env → Hm → Res D} {ft : Env → Hm → Res Bool} {g : Tg} {gd : List (Nat × O)} {a : Nat} {env : Env} {cs : List α} {h : Hm} (A : α → D) (f : α → Int) (G : Hm → Prop) (hs : ∀ h, G h → stays gd h) (hp : ∀ h o, G h → G (h.put a o))
    (hx : ∀ c ∈ cs, ∃ env1, asgT g (A c) env = some env1 ∧ ∀ h, G h → ft env1 h = some (.ok true, h) ∧ fe env1 h = some (.ok (.int (f c)), h)) (g0 : G h) (ha : h.get a = some (.lst [])) (hl : cs.length ≤ 1000000) :
    compL fe ft g gd a env (cs.map A) h = some (.ok (.ref a), h.put a (.lst ((cs.map f).map D.int))) := by
  rw [compL_gA A (fun c => .int (f c)) G hs hp cs [] h hx g0 ha (by simpa using hl), List.map_map]
  rfl
/-! ### while -/
theorem whl_inv {ft : Env → Hm → Res Bool} {fb : Env → Hm → Out} (I : Nat → Env → Hm → Prop) (e : Nat) (step : ∀ j env h, j < e → I j env h → ft env h = some (.ok true, h) ∧ ∃ env2 h2, fb env h = some (.nx, env2, h2) ∧ I (j + 1) env2 h2)
    (stop : ∀ env h, I e env h → ft env h = some (.ok false, h)) : ∀ (n j : Nat) env h, j ≤ e → e < n + j → I j env h → ∃ env' h', whl ft fb n env h = some (.nx, env', h') ∧ I e env' h'
  | 0, j, env, h, hj, hn, i => by omega
  | n + 1, j, env, h, hj, hn, i => by
    by_cases he : j = e
    · subst he
      refine ⟨env, h, ?_, i⟩
      rw [whl, stop env h i]
      rfl
    · obtain ⟨e1, env2, h2, e2, i2⟩ := step j env h (by omega) i
      obtain ⟨env', h', e3, i3⟩ := whl_inv I e step stop n (j + 1) env2 h2 (by omega) (by omega) i2
      refine ⟨env', h', ?_, i3⟩
      rw [whl, e1]
      simp only [toS_ok, if_true, e2, thenS_nx]
      exact e3
theorem whl_quiet {ft : Env → Hm → Res Bool} {fb : Env → Hm → Out} {n : Nat} {env : Env} {h : Hm} {k : Env → Hm → Out} (P : Res D → Prop) (I : Nat → Env → Hm → Prop) (e : Nat) (hn : e < n) (i0 : I 0 env h)
    (step : ∀ j env h, j < e → I j env h → ft env h = some (.ok true, h) ∧ ∃ env2 h2, fb env h = some (.nx, env2, h2) ∧ I (j + 1) env2 h2) (stop : ∀ env h, I e env h → ft env h = some (.ok false, h))
    (post : ∀ env' h', I e env' h' → P (endF (k env' h'))) : P (endF (@thenSI (whl ft fb n env h) k)) := by
  obtain ⟨env', h', e1, i1⟩ := whl_inv I e step stop n 0 env h (Nat.zero_le _) (by omega) i0
  rw [e1]
  exact post env' h' i1
/-- a for that changes nothing in the heap -/
theorem forL_still {fb : Env → Hm → Out} {g : Tg} {gd : List (Nat × O)} {xs : List D} {env : Env} {h : Hm} (E : Env → Prop) (e0 : E env) (hs : stays gd h) (step : ∀ c ∈ xs, ∀ env, E env → ∃ env1, asgT g c env = some env1 ∧ ∃ env2, fb env1 h = some (.nx, env2, h) ∧ E env2) :
    ∃ x, forL fb g gd xs env h = some (.nx, x, h) ∧ E x := by
  obtain ⟨x, h', e1, e2, rfl⟩ := forL_quiet E (fun h' => h' = h) (fun h' e => by rw [e]; exact hs) xs (fun c hc env h' e i => by
    subst i
    obtain ⟨env1, a1, env2, a2, a3⟩ := step c hc env e
    exact ⟨env1, env2, h', a1, a2, a3, rfl⟩) env h e0 rfl
  exact ⟨x, e1, e2⟩
theorem forL_stillE {fb : Env → Hm → Out} {g : Tg} {gd : List (Nat × O)} {xs : List D} {env : Env} {h : Hm} {E' : Env → Prop} (E : Env → Prop) (e0 : E env) (hs : stays gd h) (hE : ∀ x, E x → E' x) (step : ∀ c ∈ xs, ∀ env, E env → ∃ env1, asgT g c env = some env1 ∧ ∃ env2, fb env1 h = some (.nx, env2, h) ∧ E env2) :
    ∃ x, forL fb g gd xs env h = some (.nx, x, h) ∧ E' x := by
  obtain ⟨x, e1, e2⟩ := forL_still E e0 hs step
  exact ⟨x, e1, hE x e2⟩
theorem still {fb : Env → Hm → Out} {g : Tg} {gd : List (Nat × O)} {xs : List D} {env : Env} {h : Hm} {k : Env → Hm → Out} (P : Res D → Prop) (E : Env → Prop) (e0 : E env) (hs : stays gd h) (step : ∀ c ∈ xs, ∀ env, E env → ∃ env1, asgT g c env = some env1 ∧ ∃ env2, fb env1 h = some (.nx, env2, h) ∧ E env2)
    (post : ∀ env', E env' → P (endF (k env' h))) : P (endF (@thenSI (forL fb g gd xs env h) k)) := by
  obtain ⟨x, e1, e2⟩ := forL_still E e0 hs step
  rw [e1]
  exact post x e2
end Z

set_option maxRecDepth 100000
set_option maxHeartbeats 2000000
/-! ZP: loops by a relation between what was done, the names and the heap; loops that may be left. -/
namespace Z
open PySem
/-- the k-th number, 0 beyond -/
def gt (us : List Int) (k : Nat) : Int := us.getD k 0
theorem gt_map {α : Type} (f : α → Int) (xs : List α) (k : Nat) (hk : k < xs.length) : gt (xs.map f) k = f xs[k] := by
  unfold gt
  rw [List.getD_eq_getElem?_getD, List.getElem?_map, List.getElem?_eq_getElem hk]; rfl
theorem gt_range (f : Nat → Int) (n k : Nat) (hk : k < n) : gt ((List.range n).map f) k = f k := by
  rw [gt_map f _ k (by simpa using hk)]; simp
theorem at_gt (us : List Int) (k : Nat) (hk : k < us.length) : atD (us.map D.int) (k : Int) = some (.int (gt us k)) := by
  rw [atD_nat, List.getElem?_map, List.getElem?_eq_getElem hk, gt, List.getD_eq_getElem?_getD, List.getElem?_eq_getElem hk]; rfl
@[simp high] theorem at_gt_lit (us : List Int) (k : Nat) (hk : k < us.length) : atD (us.map D.int) (no_index (@OfNat.ofNat Int k _)) = some (.int (gt us k)) := at_gt us k hk
theorem cut_map {α β : Type} (f : α → β) (xs : List α) (lo hi : Option Int) : cut (xs.map f) lo hi = (cut xs lo hi).map f := by
  unfold cut
  rw [List.length_map, List.map_take, List.map_drop]
theorem cut_len {α : Type} (xs : List α) (lo hi : Option Int) : (cut xs lo hi).length ≤ xs.length := by
  unfold cut
  rw [List.length_take, List.length_drop]
  omega
theorem cut_from {α : Type} (xs : List α) (k : Nat) : cut xs (some (k : Int)) none = xs.drop k := by
  unfold cut sI
  dsimp only
  rw [if_neg (by omega), Int.toNat_natCast]
  by_cases hk : k ≤ xs.length
  · rw [Nat.min_eq_left hk, List.take_of_length_le (by rw [List.length_drop]; omega)]
  · rw [Nat.min_eq_right (by omega), Nat.sub_self, List.take_zero, List.drop_eq_nil_of_le (by omega)]
@[simp] theorem eqPP_self (d : PyData) (c : SeqAt.shaped d = true) : eqPP (some d) (some d) = some true := by
  have h1 : d.canLay0 = true := by
    unfold SeqAt.shaped at c
    exact (Bool.and_eq_true_iff.mp c).1
  simp only [eqPP, c, Bool.and_self, if_true, SeqAt.eqv_refl d h1]
@[simp] theorem sh_ints' (us : List Int) : SeqAt.shaped (.list (us.map PyData.int)) = true := sh_ints us
@[simp] theorem sh_paper (p : Int) (us ws : List Int) : SeqAt.shaped (.tuple [.int p, .list (us.map PyData.int), .list (ws.map PyData.int)]) = true := by
  simp only [SeqAt.shaped, PyData.canLay0, PyData.canLayAll0, PyData.depth, PyData.depthAll, lay_ints, dep_ints]
  rfl
theorem ixD_nat (n j : Nat) (hj : j < n) : ixD n (j : Int) = some j := by
  unfold ixD; rw [if_pos (by omega), if_pos (by omega)]; rfl
@[simp] theorem lookup_eq {v : D} (k : String) (r : List (String × D)) : List.lookup k ((k, v) :: r) = some v := by simp [List.lookup]
@[simp] theorem lookup_ne {v : D} {k k' : String} {r : List (String × D)} (e : (k == k') = false) : List.lookup k ((k', v) :: r) = List.lookup k r := by simp only [List.lookup, e]
@[simp] theorem setF_nil (f : String) (v : D) : setF [] f v = [(f, v)] := id rfl
@[simp] theorem setF_cons (f g : String) (v x : D) (r : List (String × D)) : setF ((g, x) :: r) f v = if g = f then (g, v) :: r else (g, x) :: setF r f v := id rfl
section
variable {α : Type} {fb : Env → Hm → Out} {g : Tg} {gd : List (Nat × O)} {cs : List α}
theorem forL_relA (A : α → D) (I : List α → Env → Hm → Prop) (hs : ∀ d env h, I d env h → stays gd h)
    (step : ∀ d c rest env h, cs = d ++ c :: rest → I d env h → ∃ env1, asgT g (A c) env = some env1 ∧ ∃ env2 h2, fb env1 h = some (.nx, env2, h2) ∧ I (d ++ [c]) env2 h2) :
    ∀ (rest d : List α) env h, cs = d ++ rest → I d env h → ∃ env' h', forL fb g gd (rest.map A) env h = some (.nx, env', h') ∧ I cs env' h'
  | [], d, env, h, e, i => by
    rw [List.append_nil] at e
    subst e
    exact ⟨env, h, forL_nil (hs _ _ _ i), i⟩
  | c :: rest, d, env, h, e, i => by
    obtain ⟨env1, e1, env2, h2, e2, i2⟩ := step d c rest env h e i
    obtain ⟨env', h', e3, i3⟩ := forL_relA A I hs step rest (d ++ [c]) env2 h2 (by rw [e, List.append_assoc]; rfl) i2
    refine ⟨env', h', ?_, i3⟩
    rw [List.map_cons, forL_cons (hs _ _ _ i), e1, someI_some, e2, thenSI_nx]
    exact e3
theorem forL_rel (A : α → D) (I : List α → Env → Hm → Prop) {env : Env} {h : Hm} (i0 : I [] env h) (hs : ∀ d env h, I d env h → stays gd h)
    (step : ∀ d c rest env h, cs = d ++ c :: rest → I d env h → ∃ env1, asgT g (A c) env = some env1 ∧ ∃ env2 h2, fb env1 h = some (.nx, env2, h2) ∧ I (d ++ [c]) env2 h2) :
    ∃ env' h', forL fb g gd (cs.map A) env h = some (.nx, env', h') ∧ I cs env' h' := forL_relA A I hs step cs [] env h rfl i0
/-- behind a loop: Q of the rest -/
theorem relO (Q : Out → Prop) (A : α → D) (I : List α → Env → Hm → Prop) {env : Env} {h : Hm} {k : Env → Hm → Out} (i0 : I [] env h) (hs : ∀ d env h, I d env h → stays gd h)
    (step : ∀ d c rest env h, cs = d ++ c :: rest → I d env h → ∃ env1, asgT g (A c) env = some env1 ∧ ∃ env2 h2, fb env1 h = some (.nx, env2, h2) ∧ I (d ++ [c]) env2 h2)
    (post : ∀ env' h', I cs env' h' → Q (k env' h')) : Q (@thenSI (forL fb g gd (cs.map A) env h) k) := by
  obtain ⟨env', h', e1, i1⟩ := forL_rel A I i0 hs step
  rw [e1]
  exact post env' h' i1
theorem rel (P : Res D → Prop) (A : α → D) (I : List α → Env → Hm → Prop) {env : Env} {h : Hm} {k : Env → Hm → Out} (i0 : I [] env h) (hs : ∀ d env h, I d env h → stays gd h)
    (step : ∀ d c rest env h, cs = d ++ c :: rest → I d env h → ∃ env1, asgT g (A c) env = some env1 ∧ ∃ env2 h2, fb env1 h = some (.nx, env2, h2) ∧ I (d ++ [c]) env2 h2)
    (post : ∀ env' h', I cs env' h' → P (endF (k env' h'))) : P (endF (@thenSI (forL fb g gd (cs.map A) env h) k)) :=
  relO (fun o => P (endF o)) A I i0 hs step post
theorem relE (P : Res D → Prop) (A : α → D) (I : List α → Env → Hm → Prop) {env : Env} {h : Hm} (i0 : I [] env h) (hs : ∀ d env h, I d env h → stays gd h)
    (step : ∀ d c rest env h, cs = d ++ c :: rest → I d env h → ∃ env1, asgT g (A c) env = some env1 ∧ ∃ env2 h2, fb env1 h = some (.nx, env2, h2) ∧ I (d ++ [c]) env2 h2)
    (post : ∀ env' h', I cs env' h' → P (some (.ok .non, h'))) : P (endF (forL fb g gd (cs.map A) env h)) := by
  obtain ⟨env', h', e1, i1⟩ := forL_rel A I i0 hs step
  rw [e1]
  exact post env' h' i1
/-- a loop that may be left by a return -/
theorem relXA (Q : Out → Prop) (A : α → D) (I : List α → Env → Hm → Prop) {k : Env → Hm → Out} (hs : ∀ d env h, I d env h → stays gd h)
    (step : ∀ d c rest env h, cs = d ++ c :: rest → I d env h → ∃ env1, asgT g (A c) env = some env1 ∧ ((∃ env2 h2, fb env1 h = some (.nx, env2, h2) ∧ I (d ++ [c]) env2 h2) ∨ (∃ r env2 h2, fb env1 h = some (.rt r, env2, h2) ∧ Q (some (.rt r, env2, h2)))))
    (post : ∀ env' h', I cs env' h' → Q (k env' h')) : ∀ (rest d : List α) env h, cs = d ++ rest → I d env h → Q (@thenSI (forL fb g gd (rest.map A) env h) k)
  | [], d, env, h, e, i => by
    rw [List.append_nil] at e
    subst e
    rw [List.map_nil, forL_nil (hs _ _ _ i)]
    exact post env h i
  | c :: rest, d, env, h, e, i => by
    obtain ⟨env1, e1, st⟩ := step d c rest env h e i
    rw [List.map_cons, forL_cons (hs _ _ _ i), e1, someI_some]
    rcases st with ⟨env2, h2, e2, i2⟩ | ⟨r, env2, h2, e2, q⟩
    · rw [e2, thenSI_nx]
      exact relXA Q A I hs step post rest (d ++ [c]) env2 h2 (by rw [e, List.append_assoc]; rfl) i2
    · rw [e2, thenSI_rt, thenSI_rt]
      exact q
theorem relX (Q : Out → Prop) (A : α → D) (I : List α → Env → Hm → Prop) {env : Env} {h : Hm} {k : Env → Hm → Out} (i0 : I [] env h) (hs : ∀ d env h, I d env h → stays gd h)
    (step : ∀ d c rest env h, cs = d ++ c :: rest → I d env h → ∃ env1, asgT g (A c) env = some env1 ∧ ((∃ env2 h2, fb env1 h = some (.nx, env2, h2) ∧ I (d ++ [c]) env2 h2) ∨ (∃ r env2 h2, fb env1 h = some (.rt r, env2, h2) ∧ Q (some (.rt r, env2, h2)))))
    (post : ∀ env' h', I cs env' h' → Q (k env' h')) : Q (@thenSI (forL fb g gd (cs.map A) env h) k) := relXA Q A I hs step post cs [] env h rfl i0
/-- a loop that only reads: left at the first c with p c, else through -/
theorem findO (Q : Out → Prop) (A : α → D) (p : α → Bool) (E : Env → Prop) {env : Env} {h : Hm} {k : Env → Hm → Out} (e0 : E env) (hs : stays gd h)
    (go : ∀ c ∈ cs, p c = false → ∀ env, E env → ∃ env1, asgT g (A c) env = some env1 ∧ ∃ env2, fb env1 h = some (.nx, env2, h) ∧ E env2)
    (out : ∀ c ∈ cs, p c = true → ∀ env, E env → ∃ env1, asgT g (A c) env = some env1 ∧ ∃ r env2, fb env1 h = some (.rt r, env2, h) ∧ Q (some (.rt r, env2, h)))
    (post : (∀ c ∈ cs, p c = false) → ∀ env', E env' → Q (k env' h)) : Q (@thenSI (forL fb g gd (cs.map A) env h) k) := by
  refine relX Q A (fun d env h' => E env ∧ h' = h ∧ ∀ c ∈ d, p c = false) ⟨e0, rfl, fun c hc => by cases hc⟩ (fun d env h' i => i.2.1 ▸ hs) ?_ ?_
  · rintro d c rest env h' e ⟨i1, rfl, i3⟩
    have hc : c ∈ cs := by rw [e]; simp
    cases hp : p c with
    | false =>
      obtain ⟨env1, e1, env2, e2, e3⟩ := go c hc hp env i1
      refine ⟨env1, e1, Or.inl ⟨env2, h', e2, e3, rfl, fun z hz => ?_⟩⟩
      rcases List.mem_append.mp hz with hz | hz
      · exact i3 z hz
      · rw [List.mem_singleton.mp hz]; exact hp
    | true =>
      obtain ⟨env1, e1, r, env2, e2, q⟩ := out c hc hp env i1
      exact ⟨env1, e1, Or.inr ⟨r, env2, h', e2, q⟩⟩
  · rintro env' h' ⟨i1, rfl, i3⟩
    exact post i3 env' i1
/-- a loop that only reads, in the midst of a body -/
theorem stillO (Q : Out → Prop) {xs : List D} (E : Env → Prop) {env : Env} {h : Hm} {k : Env → Hm → Out} (e0 : E env) (hs : stays gd h) (step : ∀ c ∈ xs, ∀ env, E env → ∃ env1, asgT g c env = some env1 ∧ ∃ env2, fb env1 h = some (.nx, env2, h) ∧ E env2)
    (post : ∀ env', E env' → Q (k env' h)) : Q (@thenSI (forL fb g gd xs env h) k) := by
  obtain ⟨x, e1, e2⟩ := forL_still E e0 hs step
  rw [e1]
  exact post x e2
/-- a loop whose turns keep E of the names and let the heap grow -/
theorem growO (Q : Out → Prop) (A : α → D) (E : Env → Prop) {env : Env} {h : Hm} {k : Env → Hm → Out} (e0 : E env) (hs : ∀ h', Gro h h' → stays gd h')
    (step : ∀ c ∈ cs, ∀ env h', E env → Gro h h' → ∃ env1, asgT g (A c) env = some env1 ∧ ∃ env2 h2, fb env1 h' = some (.nx, env2, h2) ∧ E env2 ∧ Gro h h2)
    (post : ∀ env' h', E env' → Gro h h' → Q (k env' h')) : Q (@thenSI (forL fb g gd (cs.map A) env h) k) :=
  relO Q A (fun d env h' => E env ∧ Gro h h') ⟨e0, Gro.refl⟩ (fun d env h' i => hs h' i.2) (fun d c rest env h' e i => step c (by rw [e]; simp) env h' i.1 i.2) (fun env' h' i => post env' h' i.1 i.2)
end
/-! ### calls and comprehensions that let the heap grow -/
theorem callS {r : Res D} {v : D} {R : Hm → Prop} {env : Env} {f : D → Hm → Out} {k : Env → Hm → Out} (P : Res D → Prop) (e : ∃ g, r = some (.ok v, g) ∧ R g) (post : ∀ g, R g → P (endF (@thenSI (f v g) k))) : P (endF (@thenSI (@toSI _ r env f) k)) := by
  obtain ⟨g, rfl, h⟩ := e
  exact post g h
theorem compL_groA {α : Type} {fe : Env → Hm → Res D} {ft : Env → Hm → Res Bool} {g : Tg} {gd : List (Nat × O)} {env : Env} {h : Hm} (A F : α → D) (hgd : ∀ h', Gro h h' → stays gd h') : ∀ (cs : List α) (acc : List D) (h1 : Hm),
    (∀ c ∈ cs, ∃ env1, asgT g (A c) env = some env1 ∧ ∀ h', Gro h h' → h.next < h'.next → ft env1 h' = some (.ok true, h') ∧ ∃ h'', fe env1 h' = some (.ok (F c), h'') ∧ Gro h' h'') → Gro h h1 → h.next < h1.next → h1.get h.next = some (.lst acc) → acc.length + cs.length ≤ 1000000 →
    ∃ h', compL fe ft g gd h.next env (cs.map A) h1 = some (.ok (.ref h.next), h') ∧ Gro h h' ∧ h.next < h'.next ∧ h'.get h.next = some (.lst (acc ++ cs.map F))
  | [], acc, h1, hx, g1, n1, ha, hl => ⟨h1, by rw [List.map_nil, compL_nil (hgd h1 g1)], g1, n1, by rw [List.map_nil, List.append_nil]; exact ha⟩
  | x :: xs, acc, h1, hx, g1, n1, ha, hl => by
    obtain ⟨env1, e1, e2⟩ := hx x (List.mem_cons_self ..)
    obtain ⟨e3, h2, e4, g2⟩ := e2 h1 g1 n1
    have hlt : acc.length < lim := by unfold lim; rw [List.length_cons] at hl; omega
    have ha2 : h2.get h.next = some (.lst acc) := (g2.at_ _ n1).trans ha
    have hle := g2.le
    obtain ⟨h', i1, i2, i3, i4⟩ := compL_groA A F hgd xs (acc ++ [F x]) (h2.put h.next (.lst (acc ++ [F x]))) (fun y hy => hx y (List.mem_cons_of_mem _ hy)) ((g1.trans g2).put (Nat.le_refl _)) (by rw [put_next]; omega) (by rw [put_get, if_pos rfl]) (by rw [List.length_append]; rw [List.length_cons] at hl; simp; omega)
    refine ⟨h', ?_, i2, i3, by rw [i4, List.map_cons, List.append_assoc]; rfl⟩
    rw [List.map_cons]
    unfold compL
    rw [if_pos (hgd h1 g1), e1]
    simp only [e3, e4, bndN_ok, if_true, ha2, hlt]
    exact i1
theorem compL_gro {α : Type} {fe : Env → Hm → Res D} {ft : Env → Hm → Res Bool} {g : Tg} {gd : List (Nat × O)} {env : Env} {h : Hm} {cs : List α} (A F : α → D) (hgd : ∀ h', Gro h h' → stays gd h')
    (hx : ∀ c ∈ cs, ∃ env1, asgT g (A c) env = some env1 ∧ ∀ h', Gro h h' → h.next < h'.next → ft env1 h' = some (.ok true, h') ∧ ∃ h'', fe env1 h' = some (.ok (F c), h'') ∧ Gro h' h'') (hl : cs.length ≤ 1000000) :
    ∃ h', compL fe ft g gd h.next env (cs.map A) (h.new (.lst [])) = some (.ok (.ref h.next), h') ∧ Gro h h' ∧ h.next < h'.next ∧ h'.get h.next = some (.lst (cs.map F)) :=
  compL_groA A F hgd cs [] _ hx .new (Nat.lt_succ_self _) (by rw [new_get, if_pos rfl]) (by simpa using hl)
/-! ### insert; rows of a program -/
section
variable {h : Hm} {a : Nat} {xs : List D} {v x : D} {i : Int}
def insO (o : Option O) (a : Nat) (i : Int) (v : D) (h : Hm) : Res D := match o with
  | some (.lst xs) => if xs.length < 1000000 ∧ 0 ≤ i ∧ i < 2 ^ 62 then some (.ok .non, h.put a (.lst (xs.take i.toNat ++ [v] ++ xs.drop i.toNat))) else none
  | _ => none
@[simp] theorem insO_l (c : xs.length < 1000000 ∧ 0 ≤ i ∧ i < 2 ^ 62) : insO (some (.lst xs)) a i v h = some (.ok .non, h.put a (.lst (xs.take i.toNat ++ [v] ++ xs.drop i.toNat))) := if_pos c
@[simp] theorem ins_ref : bmD .insert (.ref a) [.int i, v] h = insO (h.get a) a i v h := by
  cases e : h.get a with
  | none => simp only [bmD, e]; rfl
  | some o => cases o <;> (simp only [bmD, e]; rfl)
@[simp] theorem rcv_ins : rcv .insert x h = (lstOf x h).isSome := id rfl
@[simp] theorem rcv_clear : rcv .clear x h = (lstOf x h).isSome := id rfl
def clrO (o : Option O) (a : Nat) (h : Hm) : Res D := match o with
  | some (.lst _) => some (.ok .non, h.put a (.lst []))
  | _ => none
@[simp] theorem clrO_l : clrO (some (.lst xs)) a h = some (.ok .non, h.put a (.lst [])) := id rfl
@[simp] theorem clr_ref : bmD .clear (.ref a) [] h = clrO (h.get a) a h := by
  cases e : h.get a with
  | none => simp only [bmD, e]; rfl
  | some o => cases o <;> (simp only [bmD, e]; rfl)
end
/-- a row: its word, its number -/
abbrev Rw := String × Option Int
def rwD (r : Rw) : D := .tup (.str (Str.ofString r.1) :: (match r.2 with
  | none => []
  | some v => [.int v]))
def rwP (r : Rw) : PyData := .tuple (.str (Str.ofString r.1) :: (match r.2 with
  | none => []
  | some v => [.int v]))
@[simp] theorem dat_rw (h : Hm) (n : Nat) (r : Rw) : dat h (n + 1) (rwD r) = some (rwP r) := by
  obtain ⟨w, x⟩ := r
  cases x <;> (unfold rwD rwP; simp [mapO])
@[simp] theorem mapO_rows (h : Hm) (n : Nat) (rs : List Rw) : mapO (dat h (n + 1)) (rs.map rwD) = some (rs.map rwP) := mapO_map _ _ _ rs fun c _ => dat_rw h n c
def okW (r : Rw) : Bool := PyData.strOk (Str.ofString r.1)
theorem lay_rows : ∀ rs : List Rw, rs.all okW = true → PyData.canLayAll0 (rs.map rwP) = true
  | [], _ => by simp only [List.map_nil, PyData.canLayAll0]
  | r :: rs, h => by
    rw [List.all_cons, Bool.and_eq_true] at h
    have h1 := h.1
    obtain ⟨w, x⟩ := r
    unfold okW at h1
    cases x <;> simp [rwP, PyData.canLayAll0, PyData.canLay0, lay_rows rs h.2, h1]
theorem dep_rows : ∀ rs : List Rw, PyData.depthAll (rs.map rwP) ≤ 1
  | [] => by simp only [List.map_nil, PyData.depthAll]; decide
  | r :: rs => by
    have := dep_rows rs
    obtain ⟨w, x⟩ := r
    cases x <;> (simp [rwP, PyData.depthAll, PyData.depth]; omega)
@[simp] theorem sh_rows (rs : List Rw) (h : rs.all okW = true) : SeqAt.shaped (.list (rs.map rwP)) = true := by
  have := dep_rows rs
  simp [SeqAt.shaped, PyData.canLay0, PyData.depth, lay_rows rs h]
  omega
/-! ### parts of a body -/
def S.hd : S → S
  | .seq a _ => a
  | s => s
def S.tl : S → S
  | .seq _ b => b
  | s => s
def S.from : S → Nat → S
  | s, 0 => s
  | s, n + 1 => s.tl.from n
theorem seq_nx {P : Prog} {cl : Cl} {a b : S} {env env1 : Env} {h h1 : Hm} (e : ex P cl a env h = some (.nx, env1, h1)) : ex P cl (.seq a b) env h = ex P cl b env1 h1 := by rw [ex, e, thenS_nx]
theorem callS2 {r : Res D} {v : D} {R : Hm → Prop} {env : Env} {f : D → Hm → Out} {k k2 : Env → Hm → Out} (P : Res D → Prop) (e : ∃ g, r = some (.ok v, g) ∧ R g) (post : ∀ g, R g → P (endF (@thenSI (@thenSI (f v g) k) k2))) : P (endF (@thenSI (@thenSI (@toSI _ r env f) k) k2)) := by
  obtain ⟨g, rfl, h⟩ := e
  exact post g h
/-- a comprehension with a test, the heap growing -/
theorem compL_grfA {α : Type} {fe : Env → Hm → Res D} {ft : Env → Hm → Res Bool} {g : Tg} {gd : List (Nat × O)} {env : Env} {h : Hm} (A F : α → D) (p : α → Bool) (hgd : ∀ h', Gro h h' → stays gd h') : ∀ (cs : List α) (acc : List D) (h1 : Hm),
    (∀ c ∈ cs, ∃ env1, asgT g (A c) env = some env1 ∧ ∀ h', Gro h h' → h.next < h'.next → ∃ h2, ft env1 h' = some (.ok (p c), h2) ∧ Gro h' h2 ∧ (p c = true → ∃ h'', fe env1 h2 = some (.ok (F c), h'') ∧ Gro h2 h'')) → Gro h h1 → h.next < h1.next → h1.get h.next = some (.lst acc) → acc.length + cs.length ≤ 1000000 →
    ∃ h', compL fe ft g gd h.next env (cs.map A) h1 = some (.ok (.ref h.next), h') ∧ Gro h h' ∧ h.next < h'.next ∧ h'.get h.next = some (.lst (acc ++ (cs.filter p).map F))
  | [], acc, h1, hx, g1, n1, ha, hl => ⟨h1, by rw [List.map_nil, compL_nil (hgd h1 g1)], g1, n1, by rw [List.filter_nil, List.map_nil, List.append_nil]; exact ha⟩
  | x :: xs, acc, h1, hx, g1, n1, ha, hl => by
    obtain ⟨env1, e1, e2⟩ := hx x (List.mem_cons_self ..)
    obtain ⟨h2, e3, g2, e4⟩ := e2 h1 g1 n1
    have hle := g2.le
    have ha2 : h2.get h.next = some (.lst acc) := (g2.at_ _ n1).trans ha
    rw [List.length_cons] at hl
    cases hp : p x with
    | false =>
      obtain ⟨h', i1, i2, i3, i4⟩ := compL_grfA A F p hgd xs acc h2 (fun y hy => hx y (List.mem_cons_of_mem _ hy)) (g1.trans g2) (by omega) ha2 (by omega)
      refine ⟨h', ?_, i2, i3, by rw [i4, List.filter_cons, hp]; rfl⟩
      rw [List.map_cons]
      unfold compL
      rw [if_pos (hgd h1 g1), e1]
      simp only [e3, hp, bndN_ok]
      exact i1
    | true =>
      obtain ⟨h3, e5, g3⟩ := e4 hp
      have hle3 := g3.le
      have hlt : acc.length < lim := by unfold lim; omega
      have ha3 : h3.get h.next = some (.lst acc) := (g3.at_ _ (by omega)).trans ha2
      obtain ⟨h', i1, i2, i3, i4⟩ := compL_grfA A F p hgd xs (acc ++ [F x]) (h3.put h.next (.lst (acc ++ [F x]))) (fun y hy => hx y (List.mem_cons_of_mem _ hy)) (((g1.trans g2).trans g3).put (Nat.le_refl _)) (by rw [put_next]; omega) (by rw [put_get, if_pos rfl]) (by rw [List.length_append]; simp; omega)
      refine ⟨h', ?_, i2, i3, by rw [i4, List.filter_cons, hp, if_pos rfl, List.map_cons, List.append_assoc]; rfl⟩
      rw [List.map_cons]
      unfold compL
      rw [if_pos (hgd h1 g1), e1]
      simp only [e3, hp, e5, bndN_ok, if_true, ha3, hlt]
      exact i1
theorem compL_grf {α : Type} {fe : Env → Hm → Res D} {ft : Env → Hm → Res Bool} {g : Tg} {gd : List (Nat × O)} {env : Env} {h : Hm} {cs : List α} (A F : α → D) (p : α → Bool) (hgd : ∀ h', Gro h h' → stays gd h')
    (hx : ∀ c ∈ cs, ∃ env1, asgT g (A c) env = some env1 ∧ ∀ h', Gro h h' → h.next < h'.next → ∃ h2, ft env1 h' = some (.ok (p c), h2) ∧ Gro h' h2 ∧ (p c = true → ∃ h'', fe env1 h2 = some (.ok (F c), h'') ∧ Gro h2 h'')) (hl : cs.length ≤ 1000000) :
    ∃ h', compL fe ft g gd h.next env (cs.map A) (h.new (.lst [])) = some (.ok (.ref h.next), h') ∧ Gro h h' ∧ h.next < h'.next ∧ h'.get h.next = some (.lst ((cs.filter p).map F)) :=
  compL_grfA A F p hgd cs [] _ hx .new (Nat.lt_succ_self _) (by rw [new_get, if_pos rfl]) (by simpa using hl)
@[simp] theorem gro_refl_s {h : Hm} : Gro h h := .refl
@[simp] theorem gro_new_s {h h' : Hm} {o : O} (g : Gro h h') : Gro h (h'.new o) := g.trans .new
@[simp] theorem c_isB (a b : Bool) {h : Hm} : cmpD .isN (.bl a) (.bl b) h = some (decide (a = b)) := id rfl
@[simp] theorem c_notB (a b : Bool) {h : Hm} : cmpD .notN (.bl a) (.bl b) h = some (!decide (a = b)) := id rfl
/-! ### dicts -/
section
variable {h : Hm} {a : Nat} {xs : List D} {v x : D} {i : Int} {kvs : List (L2.Key × D)} {q : L2.Key}
def dgO (o : Option O) (k : D) : Option (Option D) := match o with
  | some (.dic kvs) => (key? k).map fun q => kget kvs q
  | some (.fzd kvs) => (key? k).map fun q => kget kvs q
  | _ => none
@[simp] theorem dgO_d (k : D) : dgO (some (.dic kvs)) k = (key? k).map fun q => kget kvs q := id rfl
@[simp] theorem dgO_z (k : D) : dgO (some (.fzd kvs)) k = (key? k).map fun q => kget kvs q := id rfl
@[simp] theorem dget_eq (k : D) : dget h a k = dgO (h.get a) k := by
  unfold dget dgO
  cases h.get a with
  | none => rfl
  | some o => cases o <;> rfl
@[simp] theorem key_i : key? (.int i) = some (.inl i) := id rfl
@[simp] theorem key_s (s : Str) : key? (.str s) = some (.inr s) := id rfl
def dpO (o : Option O) (h : Hm) (a : Nat) (k v : D) : Option Hm := match o with
  | some (.dic kvs) => if kvs.length < 1000000 then (key? k).map fun q => h.put a (.dic (kput kvs q v)) else none
  | _ => none
@[simp] theorem dpO_d (k v : D) (c : kvs.length < 1000000) : dpO (some (.dic kvs)) h a k v = (key? k).map fun q => h.put a (.dic (kput kvs q v)) := if_pos c
@[simp] theorem dput_eq (k v : D) : dput h a k v = dpO (h.get a) h a k v := by
  unfold dput dpO
  cases h.get a with
  | none => rfl
  | some o => cases o <;> rfl
def inRO (x : D) (o : Option O) : Option Bool := match o with
  | some (.lst xs) => inL x xs
  | some (.fz xs) => inL x xs
  | some (.dic kvs) => ((key? x).map fun q => kget kvs q).map Option.isSome
  | some (.fzd kvs) => ((key? x).map fun q => kget kvs q).map Option.isSome
  | _ => none
@[simp] theorem inRO_l : inRO x (some (.lst xs)) = inL x xs := id rfl
@[simp] theorem inRO_f : inRO x (some (.fz xs)) = inL x xs := id rfl
@[simp] theorem inRO_d : inRO x (some (.dic kvs)) = ((key? x).map fun q => kget kvs q).map Option.isSome := id rfl
@[simp] theorem in_ref : cmpD .inn x (.ref a) h = inRO x (h.get a) := by
  show inD x (.ref a) h = _
  unfold inD inRO
  dsimp only
  cases e : h.get a with
  | none => rfl
  | some o => cases o <;> (try rfl) <;> (simp only [dget_eq, e]; rfl)
@[simp] theorem nin_ref : cmpD .nin x (.ref a) h = (inRO x (h.get a)).map fun b => !b := by
  show (inD x (.ref a) h).map _ = _
  rw [← in_ref (h := h)]; rfl
def isDO (o : Option O) : Bool := match o with
  | some (.dic _) => true
  | some (.fzd _) => true
  | _ => false
@[simp] theorem isDO_z : isDO (some (.fzd kvs)) = true := id rfl
@[simp] theorem isDO_d : isDO (some (.dic kvs)) = true := id rfl
@[simp] theorem rcv_get : rcv .get (.ref a) h = isDO (h.get a) := by
  first
  | (simp only [rcv, rcv.isDic, isDO]; done)
  | (simp only [rcv, rcv.isDic, isDO]
     cases h.get a with
     | none => rfl
     | some o => cases o <;> rfl)
@[simp] theorem rcv_get2 : rcv .get2 (.ref a) h = isDO (h.get a) := rcv_get (a := a) (h := h)
@[simp] theorem rcv_dpop : rcv .dpop (.ref a) h = isDO (h.get a) := rcv_get (a := a) (h := h)
def getO (m : Option (Option D)) (d : D) (h : Hm) : Res D := match m with
  | some (some v) => some (.ok v, h)
  | some none => some (.ok d, h)
  | none => none
@[simp] theorem getO_s (m : Option D) (d : D) : getO (some m) d h = some (.ok (m.getD d), h) := by cases m <;> rfl
@[simp] theorem bm_get (k : D) : bmD .get (.ref a) [k] h = getO (dget h a k) .non h := by
  simp only [bmD]
  rcases dget h a k with _ | _ | _ <;> rfl
@[simp] theorem bm_get2 (k d : D) : bmD .get2 (.ref a) [k, d] h = getO (dget h a k) d h := by
  simp only [bmD]
  rcases dget h a k with _ | _ | _ <;> rfl
def dpopO (o : Option O) (a : Nat) (k : D) (h : Hm) : Res D := match o with
  | some (.dic kvs) => (match key? k with
    | some q => (match kget kvs q with
      | some v => some (.ok v, h.put a (.dic (kdrop kvs q)))
      | none => none)
    | none => none)
  | _ => none
@[simp] theorem dpopO_i (e : kget kvs (.inl i) = some v) : dpopO (some (.dic kvs)) a (.int i) h = some (.ok v, h.put a (.dic (kdrop kvs (.inl i)))) := by
  simp only [dpopO, key?, e]
@[simp] theorem bm_dpop (k : D) : bmD .dpop (.ref a) [k] h = dpopO (h.get a) a k h := by
  cases e : h.get a with
  | none => simp only [bmD, e]; rfl
  | some o => cases o <;> (simp only [bmD, e]; rfl)
@[simp] theorem lenO_d : lenO (some (.dic kvs)) h = some (.ok (.int kvs.length), h) := id rfl
@[simp] theorem truO_d : truO (some (.dic kvs)) = some (!kvs.isEmpty) := id rfl
end
section
variable {κ α : Type} [DecidableEq κ] {kvs : List (κ × α)}
@[simp] theorem kget_nil (k : κ) : kget ([] : List (κ × α)) k = none := id rfl
theorem kget_cons (p : κ × α) (k : κ) : kget (p :: kvs) k = if p.1 = k then some p.2 else kget kvs k := by
  unfold kget
  rw [List.find?_cons]
  by_cases h : p.1 = k
  · rw [if_pos h]; simp [h]
  · rw [if_neg h]; simp [h]
theorem kget_any : ∀ (kvs : List (κ × α)) (k : κ), (kvs.any fun kv => decide (kv.1 = k)) = (kget kvs k).isSome
  | [], k => rfl
  | p :: r, k => by
    rw [List.any_cons, kget_any r k, kget_cons]
    by_cases hp : p.1 = k
    · rw [if_pos hp, decide_eq_true hp]; rfl
    · rw [if_neg hp, decide_eq_false hp]; rfl
theorem kget_map (k : κ) (v : α) (k' : κ) : ∀ kvs : List (κ × α), kget (kvs.map fun kv => if kv.1 = k then (kv.1, v) else kv) k' = if k = k' ∧ (kget kvs k').isSome = true then some v else kget kvs k'
  | [] => by simp
  | p :: r => by
    rw [List.map_cons, kget_cons, kget_cons, kget_map k v k' r]
    by_cases hp : p.1 = k
    · rw [if_pos hp]
      dsimp only
      by_cases hk : k = k'
      · rw [if_pos (hp.trans hk), if_pos (hp.trans hk), if_pos ⟨hk, rfl⟩]
      · rw [if_neg (fun z => hk (hp.symm.trans z)), if_neg (fun z => hk (hp.symm.trans z)), if_neg (fun z => hk z.1)]
    · rw [if_neg hp]
      by_cases hk : p.1 = k'
      · rw [if_pos hk, if_pos hk, if_neg (fun z => hp (hk.trans z.1.symm))]
      · rw [if_neg hk, if_neg hk]
theorem kget_snoc (k : κ) (v : α) (k' : κ) : ∀ kvs : List (κ × α), kget (kvs ++ [(k, v)]) k' = if (kget kvs k').isSome = true then kget kvs k' else if k = k' then some v else none
  | [] => by rw [List.nil_append, kget_cons]; simp
  | p :: r => by
    rw [List.cons_append, kget_cons, kget_cons, kget_snoc k v k' r]
    by_cases hp : p.1 = k'
    · rw [if_pos hp, if_pos hp]; rfl
    · rw [if_neg hp, if_neg hp]
theorem kget_kput (kvs : List (κ × α)) (k k' : κ) (v : α) : kget (kput kvs k v) k' = if k = k' then some v else kget kvs k' := by
  unfold kput
  rw [kget_any]
  by_cases hs : (kget kvs k).isSome = true
  · rw [if_pos hs, kget_map]
    by_cases hk : k = k'
    · subst hk; rw [if_pos ⟨rfl, hs⟩, if_pos rfl]
    · rw [if_neg (fun z => hk z.1), if_neg hk]
  · rw [if_neg hs, kget_snoc]
    by_cases hk : k = k'
    · subst hk; rw [if_neg hs, if_pos rfl, if_pos rfl]
    · rw [if_neg hk, if_neg hk]
      by_cases h2 : (kget kvs k').isSome = true
      · rw [if_pos h2]
      · rw [if_neg h2]
        cases e : kget kvs k' with
        | none => rfl
        | some v => rw [e] at h2; exact absurd rfl h2
theorem kget_kdrop (k k' : κ) : ∀ kvs : List (κ × α), kget (kdrop kvs k) k' = if k = k' then none else kget kvs k'
  | [] => by simp [kdrop]
  | p :: r => by
    have ih := kget_kdrop k k' r
    unfold kdrop at ih ⊢
    rw [List.filter_cons]
    by_cases hp : p.1 = k
    · rw [if_neg (by simpa using hp), ih, kget_cons]
      by_cases hk : k = k'
      · rw [if_pos hk, if_pos hk]
      · rw [if_neg hk, if_neg hk, if_neg (fun z => hk (hp.symm.trans z))]
    · rw [if_pos (by simpa using hp), kget_cons, kget_cons, ih]
      by_cases hk : k = k'
      · subst hk; rw [if_neg hp, if_pos rfl, if_pos rfl]
      · rw [if_neg hk, if_neg hk]
theorem kput_len (kvs : List (κ × α)) (k : κ) (v : α) : (kput kvs k v).length ≤ kvs.length + 1 := by
  unfold kput
  split <;> simp
theorem kdrop_len (kvs : List (κ × α)) (k : κ) : (kdrop kvs k).length ≤ kvs.length := List.length_filter_le ..
end
/-! ### texts -/
section
variable {h : Hm} {s z : Str} {i k : Int}
@[simp] theorem len_str (c : s.length ≤ 1000000) : biD .len [.str s] h = some (.ok (.int s.length), h) := if_pos c
@[simp] theorem b_addS {t : Str} (c : s.length + t.length ≤ 1000000) : binD .add (.str s) (.str t) h = some (.ok (.str (s ++ t)), h) := if_pos c
@[simp] theorem b_mulS (c : s.length = 1 ∧ 2 ≤ k ∧ k ≤ 10000) : binD .mul (.str s) (.int k) h = some (.ok (.str (repS s k)), h) := if_pos c
@[simp] theorem slc_str {lo hi : Option Int} (c : z.length ≤ 1000000) : slcD (.str z) lo hi h = some (.ok (.str (cutT z lo hi)), h) := if_pos c
theorem idx_str (c : z.length ≤ 1000000) {x : Nat} (e : atD z.cps.toList i = some x) : idxD (.str z) (.int i) h = some (.str ⟨#[x]⟩) := by
  show (if z.length ≤ 1000000 then (atD z.cps.toList i).map _ else none) = _
  rw [if_pos c, e]; rfl
@[simp] theorem bi_str (c : -(2 ^ 250) < i ∧ i < 2 ^ 250) : biD .str [.int i] h = some (.ok (.str (Str.ofString (toString i))), h) := if_pos c
theorem bi_intS {n : Int} (c : s.length ≤ 640) (e : intText? s = some n) : biD .int [.str s] h = some (.ok (.int n), h) := by
  simp only [biD, e]
  exact if_pos c
@[simp] theorem walk_str : walk .seq [.str z] h = some (z.cps.toList.map fun c => .str ⟨#[c]⟩, []) := id rfl
@[simp] theorem find_str {y : Str} : bmD .find (.str z) [.str y] h = some (.ok (.int (PySem.Txt.find z y)), h) := id rfl
@[simp] theorem rcv_find : rcv .find (.str z) h = true := id rfl
end
theorem str_app_len (s t : Str) : (s ++ t).length = s.length + t.length := by
  show (s.cps ++ t.cps).size = _
  rw [Array.size_append]; rfl
theorem cutT_len (z : Str) (lo hi : Option Int) : (cutT z lo hi).length ≤ z.length := by
  unfold cutT Str.length
  simp
  omega
theorem num_len (i : Int) (h : i.natAbs < 2 ^ 250) : (Str.ofString (toString i)).length ≤ 1921 := by
  refine PyProof.Rows.int_text_len_1921 ?_
  by_cases h0 : i.natAbs = 0
  · rw [h0]; decide
  · have := (Nat.log2_lt h0 (k := 250)).mpr h
    omega
theorem ints_map : ∀ us : List Int, ints? (us.map D.int) = some us
  | [] => rfl
  | x :: xs => by simp only [List.map_cons, ints?, ints_map xs, Option.map_some]
theorem bi_sum {a : Nat} {us : List Int} {h : Hm} (e : h.get a = some (.lst (us.map D.int))) : biD .sum [.ref a] h = some (.ok (.int us.sum), h) := by
  simp only [biD, lstOf, e, ints_map]; rfl
theorem concat_cases {α : Type} (xs : List α) (h : xs ≠ []) : ∃ ys y, xs = ys ++ [y] := ⟨xs.dropLast, xs.getLast h, (List.dropLast_concat_getLast h).symm⟩
theorem range_at {α : Type} (f : Nat → α) (n i : Nat) (hi : i < n) : atD ((List.range n).map f) (i : Int) = some (f i) := by
  rw [atD_nat, List.getElem?_map, List.getElem?_range hi]; rfl
theorem range_last {α : Type} (f : Nat → α) (n : Nat) : atD ((List.range (n + 1)).map f) (-1) = some (f n) := by
  rw [List.range_succ, List.map_append]; exact atD_last _ _
def repO (o : Option O) (k : Int) (h : Hm) : Res D := match o with
  | some (.lst xs) => if rng62 k ∧ xs.length * k.toNat ≤ 1000000 then some (.ok (.ref h.next), h.new (.lst (List.replicate k.toNat xs).flatten)) else none
  | _ => none
@[simp] theorem repO_l {xs : List D} {k : Int} {h : Hm} (c : (-(2 ^ 62) ≤ k ∧ k < 2 ^ 62) ∧ xs.length * k.toNat ≤ 1000000) : repO (some (.lst xs)) k h = some (.ok (.ref h.next), h.new (.lst (List.replicate k.toNat xs).flatten)) := if_pos c
@[simp] theorem rep_ref {a : Nat} {k : Int} {h : Hm} : binD .mul (.ref a) (.int k) h = repO (h.get a) k h := by
  cases e : h.get a with
  | none => simp only [binD, e]; rfl
  | some o => cases o <;> (simp only [binD, e]; rfl)
theorem ex_for_eq {P : Prog} {cl : Cl} {g : Tg} {k : ItK} {es : Es} {body : S} {env : Env} {h h1 : Hm} {vs items : List D} {gd : List (Nat × O)} (he : evs P cl es env h = some (.ok vs, h1)) (hw : walk k vs h1 = some (items, gd)) :
    ex P cl (.for_ g k es body) env h = forL (fun e1 h2 => ex P cl body e1 h2) g gd items env h1 := by rw [ex_for, he, toSI_ok, hw, walkI_some]
theorem strs_map : ∀ us : List Str, strs? (us.map D.str) = some us
  | [] => rfl
  | x :: xs => by simp only [List.map_cons, strs?, strs_map xs, Option.map_some]
theorem bi_minD {h : Hm} {a : Nat} {ns : List Int} {d : Int} (e : h.get a = some (.lst (ns.map D.int))) : biD .minD [.ref a, .int d] h = some (.ok (.int (lmin d ns)), h) := by
  simp only [biD, lstOf, e, ints_map]; rfl
theorem bm_join {z : Str} {a : Nat} {ys : List Str} {h : Hm} (e : h.get a = some (.lst (ys.map D.str))) (c : (ys.map (·.length)).sum + ys.length * z.length ≤ 16777216) : bmD .join (.str z) [.ref a] h = some (.ok (.str (PySem.Txt.join z ys)), h) := by
  simp only [bmD, seqOf, e, strs_map]
  exact if_pos c
@[simp] theorem rcv_join {z : Str} {h : Hm} : rcv .join (.str z) h = true := id rfl
@[simp] theorem rcv_split {z : Str} {h : Hm} : rcv .split (.str z) h = true := id rfl
@[simp] theorem rcv_part {z : Str} {h : Hm} : rcv .partition (.str z) h = true := id rfl
theorem bm_split {z y : Str} {h : Hm} (c : (y.length == 0) = false ∧ z.length ≤ 1000000) : bmD .split (.str z) [.str y] h = some (.ok (.ref h.next), h.new (.lst ((PySem.Txt.split z y).map .str))) := if_pos c
theorem bm_part {z y : Str} {h : Hm} (c : (y.length == 0) = false ∧ z.length ≤ 1000000) : bmD .partition (.str z) [.str y] h = some (.ok (.tup [.str (PySem.Txt.partition z y).1, .str (PySem.Txt.partition z y).2.1, .str (PySem.Txt.partition z y).2.2]), h) := if_pos c
@[simp] theorem isTn_sb : isTn "str" .bool = false := by decide
@[simp] theorem isTn_si : isTn "str" .int = false := by decide
@[simp] theorem isTn_is : isTn "int" .str = false := by decide
theorem join_le (y : Str) (ps : List Str) : (Txt.join y ps).length ≤ (ps.map (·.length)).sum + ps.length * y.length := by
  cases ps with
  | nil => exact Nat.zero_le _
  | cons a l =>
    have key : ∀ (l : List Str) (acc : Array Nat), (List.foldl (fun acc (p : Str) => acc ++ y.cps ++ p.cps) acc l).size = acc.size + (l.map (·.length)).sum + l.length * y.length := by
      intro l
      induction l with
      | nil => intro acc; simp
      | cons p r ih =>
        intro acc
        rw [List.foldl_cons, ih, Array.size_append, Array.size_append, List.map_cons, List.sum_cons, List.length_cons, Nat.succ_mul]
        show acc.size + y.length + p.length + _ + _ = _
        omega
    have := key l a.cps
    show (List.foldl (fun acc (p : Str) => acc ++ y.cps ++ p.cps) a.cps l).size ≤ _
    rw [this, List.map_cons, List.sum_cons, List.length_cons, Nat.succ_mul]
    show a.length + _ + _ ≤ _
    omega
/-! ### comprehensions whose elements are known as data -/
theorem mapO_snoc {α β : Type} (f : α → Option β) (x : α) (y : β) : ∀ (xs : List α) (ys : List β), mapO f xs = some ys → f x = some y → mapO f (xs ++ [x]) = some (ys ++ [y])
  | [], ys, e, h => by cases e; exact mapO_cons f x [] h rfl
  | z :: xs, ys, e, h => by
    simp only [mapO] at e
    cases e1 : f z with
    | none => rw [e1] at e; cases e
    | some u =>
      cases e2 : mapO f xs with
      | none => rw [e1, e2] at e; cases e
      | some us =>
        rw [e1, e2] at e
        cases e
        exact mapO_cons f z (xs ++ [x]) e1 (mapO_snoc f x y xs us e2 h)
theorem compL_datA {α : Type} {fe : Env → Hm → Res D} {ft : Env → Hm → Res Bool} {g : Tg} {gd : List (Nat × O)} {env : Env} {h : Hm} (A : α → D) (pd : α → PyData) (nn : Nat) (hgd : ∀ h', Gro h h' → stays gd h') : ∀ (cs : List α) (acc : List D) (pacc : List PyData) (h1 : Hm),
    (∀ c ∈ cs, ∃ env1, asgT g (A c) env = some env1 ∧ ∀ h', Gro h h' → h.next < h'.next → ft env1 h' = some (.ok true, h') ∧ ∃ e h'', fe env1 h' = some (.ok e, h'') ∧ Gro h' h'' ∧ ∀ h3, (∀ b, h'.next ≤ b → b < h''.next → h3.get b = h''.get b) → dat h3 nn e = some (pd c)) →
    Gro h h1 → h.next < h1.next → h1.get h.next = some (.lst acc) → (∀ h3, (∀ b, h.next < b → b < h1.next → h3.get b = h1.get b) → mapO (dat h3 nn) acc = some pacc) → acc.length + cs.length ≤ 1000000 →
    ∃ h' es, compL fe ft g gd h.next env (cs.map A) h1 = some (.ok (.ref h.next), h') ∧ Gro h h' ∧ h.next < h'.next ∧ h'.get h.next = some (.lst es) ∧ ∀ h3, (∀ b, h.next < b → b < h'.next → h3.get b = h'.get b) → mapO (dat h3 nn) es = some (pacc ++ cs.map pd)
  | [], acc, pacc, h1, hx, g1, n1, ha, hp, hl => ⟨h1, acc, by rw [List.map_nil, compL_nil (hgd h1 g1)], g1, n1, ha, fun h3 hh => by rw [List.map_nil, List.append_nil]; exact hp h3 hh⟩
  | x :: xs, acc, pacc, h1, hx, g1, n1, ha, hp, hl => by
    obtain ⟨env1, e1, e2⟩ := hx x (List.mem_cons_self ..)
    obtain ⟨e3, el, h2, e4, g2, hd⟩ := e2 h1 g1 n1
    have hlt : acc.length < lim := by unfold lim; rw [List.length_cons] at hl; omega
    have ha2 : h2.get h.next = some (.lst acc) := (g2.at_ _ n1).trans ha
    have hle := g2.le
    obtain ⟨h', es, i1, i2, i3, i4, i5⟩ := compL_datA A pd nn hgd xs (acc ++ [el]) (pacc ++ [pd x]) (h2.put h.next (.lst (acc ++ [el]))) (fun y hy => hx y (List.mem_cons_of_mem _ hy)) ((g1.trans g2).put (Nat.le_refl _)) (by rw [put_next]; omega) (by rw [put_get, if_pos rfl])
      (fun h3 hh => by
        refine mapO_snoc _ _ _ _ _ (hp h3 fun b hb hb2 => ?_) (hd h3 fun b hb hb2 => ?_)
        · rw [hh b hb (by rw [put_next]; omega), put_get_ne (by omega)]; exact g2.at_ b hb2
        · rw [hh b (by omega) (by rw [put_next]; exact hb2), put_get_ne (by omega)])
      (by rw [List.length_append]; rw [List.length_cons] at hl; simp; omega)
    refine ⟨h', es, ?_, i2, i3, i4, fun h3 hh => by rw [i5 h3 hh, List.map_cons, List.append_assoc]; rfl⟩
    rw [List.map_cons]
    unfold compL
    rw [if_pos (hgd h1 g1), e1]
    simp only [e3, e4, bndN_ok, if_true, ha2, hlt]
    exact i1
theorem compL_dat {α : Type} {fe : Env → Hm → Res D} {ft : Env → Hm → Res Bool} {g : Tg} {gd : List (Nat × O)} {env : Env} {h : Hm} {cs : List α} (A : α → D) (pd : α → PyData) (nn : Nat) (hgd : ∀ h', Gro h h' → stays gd h')
    (hx : ∀ c ∈ cs, ∃ env1, asgT g (A c) env = some env1 ∧ ∀ h', Gro h h' → h.next < h'.next → ft env1 h' = some (.ok true, h') ∧ ∃ e h'', fe env1 h' = some (.ok e, h'') ∧ Gro h' h'' ∧ ∀ h3, (∀ b, h'.next ≤ b → b < h''.next → h3.get b = h''.get b) → dat h3 nn e = some (pd c)) (hl : cs.length ≤ 1000000) :
    ∃ h' es, compL fe ft g gd h.next env (cs.map A) (h.new (.lst [])) = some (.ok (.ref h.next), h') ∧ Gro h h' ∧ h.next < h'.next ∧ h'.get h.next = some (.lst es) ∧ ∀ h3, (∀ b, h.next < b → b < h'.next → h3.get b = h'.get b) → mapO (dat h3 nn) es = some (cs.map pd) :=
  compL_datA A pd nn hgd cs [] [] _ hx .new (Nat.lt_succ_self _) (by rw [new_get, if_pos rfl]) (fun _ _ => rfl) (by simpa using hl)
end Z

set_option maxRecDepth 100000
set_option maxHeartbeats 2000000
/-! ZQ: simp rules for walks of dicts, tuple keys, [::-1], C() of a class without __init__, isinstance of own classes. -/
namespace Z
open PySem
set_option checkBinderAnnotations false
section
variable {P : Prog} {cl : Cl} {env : Env} {h : Hm} {β : Type} {a : Nat} {kvs : List (L2.Key × D)} {kts : List (List L2.Key × D)} {xs : List D}
def lckG (m : Option O) [f : O → O → Option β] : Option β := match m with
  | some o => (match lckO o with
    | some o' => f o o'
    | none => none)
  | none => none
def lckI (m : Option (Option D)) (h : Hm) [f : Nat → O → O → Option β] : Option β := match m with
  | some (some (.ref a)) => @lckG β (h.get a) (f a)
  | _ => none
@[simp] theorem lckI_ref (f : Nat → O → O → Option β) : @lckI β (some (some (.ref a))) h f = @lckG β (h.get a) (f a) := id rfl
@[simp] theorem lckG_d (f : O → O → Option β) : @lckG β (some (.dic kvs)) f = f (.dic kvs) (.fzd kvs) := id rfl
@[simp] theorem lckG_t (f : O → O → Option β) : @lckG β (some (.dit kts)) f = f (.dit kts) (.fzt kts) := id rfl
@[simp] theorem frzO_d : frzO (some (.fzd kvs)) = true := id rfl
@[simp] theorem frzO_t : frzO (some (.fzt kts)) = true := id rfl
@[simp] theorem ev_lck (i : Nat) (e : E) : ev P cl (.lck i e) env h = @lckI _ env[i]? h fun a o o' => @bndNI _ _ (ev P cl e env (h.put a o')) fun x h2 => if frzO (h2.get a) = true then ok x (h2.put a o) else none := by
  rw [ev]; unfold lckI lckG bndNI
  cases env[i]? with
  | none => rfl
  | some m =>
    cases m with
    | none => rfl
    | some d => cases d <;> rfl
def lckS (m : Out) (a : Nat) (o : O) : Out := match m with
  | some (.nx, env2, h2) => if frzO (h2.get a) = true then some (.nx, env2, h2.put a o) else none
  | some (.rt d, env2, h2) => if frzO (h2.get a) = true then some (.rt d, env2, h2.put a o) else none
  | _ => none
@[simp] theorem lckS_nx {h2 : Hm} {env2 : Env} {o : O} (c : frzO (h2.get a) = true) : lckS (some (.nx, env2, h2)) a o = some (.nx, env2, h2.put a o) := if_pos c
@[simp] theorem lckS_rt {h2 : Hm} {env2 : Env} {o : O} {d : D} (c : frzO (h2.get a) = true) : lckS (some (.rt d, env2, h2)) a o = some (.rt d, env2, h2.put a o) := if_pos c
@[simp] theorem ex_lck (i : Nat) (s : S) : ex P cl (.lck i s) env h = @lckI _ env[i]? h fun a o o' => lckS (ex P cl s env (h.put a o')) a o := by
  have key : ∀ m : Option (Option D), (match m with
    | some (some (.ref a)) => (match h.get a with
      | some o => (match lckO o with
        | some o' => lckS (ex P cl s env (h.put a o')) a o
        | none => none)
      | none => none)
    | _ => none) = @lckI _ m h fun a o o' => lckS (ex P cl s env (h.put a o')) a o := fun m => by
    cases m with
    | none => rfl
    | some m => cases m with
      | none => rfl
      | some d => cases d <;> rfl
  rw [← key, ex]
  cases env[i]? with
  | none => rfl
  | some m =>
    cases m with
    | none => rfl
    | some d =>
      cases d with
      | ref a =>
        cases h.get a with
        | none => rfl
        | some o =>
          dsimp only
          cases lckO o with
          | none => rfl
          | some o' =>
            try dsimp only
            unfold lckS
            cases ex P cl s env (h.put a o') with
            | none => rfl
            | some r =>
              obtain ⟨fl, _, _⟩ := r
              cases fl <;> rfl
      | _ => rfl
theorem ex_lck_nx {i : Nat} {s : S} {o o' : O} {env2 : Env} {h2 : Hm} (he : env[i]? = some (some (.ref a))) (ho : h.get a = some o) (hl : lckO o = some o') (e : ex P cl s env (h.put a o') = some (.nx, env2, h2)) (hf : frzO (h2.get a) = true) :
    ex P cl (.lck i s) env h = some (.nx, env2, h2.put a o) := by
  rw [ex_lck, he, lckI_ref, ho]
  unfold lckG
  simp only [hl, e]
  exact if_pos hf
@[simp] theorem ev_rsl (e : E) : ev P cl (.rsl e) env h = @bndI _ _ (ev P cl e env h) fun x h1 => @someI _ _ (lstOf x h1) fun xs => ok (.ref h1.next) (h1.new (.lst xs.reverse)) := by
  rw [ev]
  refine congrArg (bnd _) (funext fun x => funext fun h1 => ?_)
  cases lstOf x h1 <;> rfl
@[simp] theorem ev_dictT : ev P cl .dictT env h = ok (.ref h.next) (h.new (.dit [])) := by rw [ev]
@[simp] theorem ev_dgtT (e : E) (es : Es) : ev P cl (.dgtT e es) env h = @bndI _ _ (ev P cl e env h) fun x h1 => @bndI _ _ (evs P cl es env h1) fun ks h2 => (match x with
    | .ref p => if ks.length ≤ 1000000 then dgtO (dgetT h2 p ks) h2 else none
    | _ => none) := by rw [ev] <;> rfl
def gotO (m : Option (Option D)) (d : D) (h : Hm) : Res D := match m with
  | some (some v) => ok v h
  | some none => ok d h
  | none => none
@[simp] theorem gotO_s (m : Option D) (d : D) : gotO (some m) d h = some (.ok (m.getD d), h) := by cases m <;> rfl
def isTO (o : Option O) : Bool := match o with
  | some (.dit _) => true
  | some (.fzt _) => true
  | _ => false
@[simp] theorem isTO_d : isTO (some (.dit kts)) = true := id rfl
@[simp] theorem isTO_z : isTO (some (.fzt kts)) = true := id rfl
@[simp] theorem ev_getT (e : E) (es : Es) (d : Cst) : ev P cl (.getT e es d) env h = @bndI _ _ (ev P cl e env h) fun x h1 => (match x with
    | .ref p => if isTO (h1.get p) = true then @bndI _ _ (evs P cl es env h1) fun ks h2 => if ks.length ≤ 1000000 then gotO (dgetT h2 p ks) d.d h2 else none else none
    | _ => none) := by
  rw [ev]
  refine congrArg (bnd _) (funext fun x => funext fun h1 => ?_)
  cases x with
  | ref p =>
    dsimp only [dgetT]
    cases h1.get p with
    | none => rfl
    | some o => cases o <;> rfl
  | _ => rfl
def dtO (o : Option O) (ks : List D) : Option (Option D) := match o with
  | some (.dit kvs) => (keys? ks).map fun q => kget kvs q
  | some (.fzt kvs) => (keys? ks).map fun q => kget kvs q
  | _ => none
@[simp] theorem dtO_d (ks : List D) : dtO (some (.dit kts)) ks = (keys? ks).map fun q => kget kts q := id rfl
@[simp] theorem dtO_z (ks : List D) : dtO (some (.fzt kts)) ks = (keys? ks).map fun q => kget kts q := id rfl
@[simp] theorem dgetT_eq (ks : List D) : dgetT h a ks = dtO (h.get a) ks := by
  unfold dgetT dtO
  cases h.get a with
  | none => rfl
  | some o => cases o <;> rfl
@[simp] theorem keys_nil : keys? [] = some [] := id rfl
@[simp] theorem keys_ii (i j : Int) : keys? [.int i, .int j] = some [.inl i, .inl j] := id rfl
def dptO (o : Option O) (h : Hm) (a : Nat) (ks : List D) (v : D) : Option Hm := match o with
  | some (.dit kvs) => if kvs.length < 1000000 then (keys? ks).map fun q => h.put a (.dit (kput kvs q v)) else none
  | _ => none
@[simp] theorem dptO_d (ks : List D) (v : D) (c : kts.length < 1000000) : dptO (some (.dit kts)) h a ks v = (keys? ks).map fun q => h.put a (.dit (kput kts q v)) := if_pos c
@[simp] theorem dputT_eq (ks : List D) (v : D) : dputT h a ks v = dptO (h.get a) h a ks v := by
  unfold dputT dptO
  cases h.get a with
  | none => rfl
  | some o => cases o <;> rfl
@[simp] theorem ex_dputT (o : E) (es : Es) (e : E) : ex P cl (.dputT o es e) env h = @toSI _ (ev P cl e env h) env fun x h1 => @toSI _ (ev P cl o env h1) env fun y h2 => @toSI _ (evs P cl es env h2) env fun ks h3 => (match y with
    | .ref p => if ks.length ≤ 1000000 then @someI _ _ (dputT h3 p ks x) fun h4 => nxt env h4 else none
    | _ => none) := by
  rw [ex]
  refine congrArg (toS _ _) (funext fun x => funext fun h1 => ?_)
  refine congrArg (toS _ _) (funext fun y => funext fun h2 => ?_)
  refine congrArg (toS _ _) (funext fun ks => funext fun h3 => ?_)
  cases y with
  | ref p =>
    show (if ks.length ≤ lim then _ else none) = if ks.length ≤ lim then _ else none
    cases dputT h3 p ks x <;> rfl
  | _ => rfl
@[simp] theorem ev_new0 (c : String) : ev P cl (.new0 c) env h = ok (.ref h.next) (h.new (.ins c [])) := by rw [ev]
@[simp] theorem ev_isc (e : E) (c : String) : ev P cl (.isc e c) env h = @bndI _ _ (ev P cl e env h) fun x h1 => (match x with
    | .ref p => @insB _ (h1.get p) fun c1 _ => liftO ((P.sub c1 c).map .bl) h1
    | _ => none) := by rw [ev] <;> rfl
def wkO (o : Option O) : Option (List D × List (Nat × O)) := match o with
  | some (.fzd kvs) => some (kvs.map fun kv => keyD kv.1, [])
  | some (.fzt kvs) => some (kvs.map fun kv => .tup (kv.1.map keyD), [])
  | _ => none
@[simp] theorem wkO_d : wkO (some (.fzd kvs)) = some (kvs.map fun kv => keyD kv.1, []) := id rfl
@[simp] theorem wkO_t : wkO (some (.fzt kts)) = some (kts.map fun kv => .tup (kv.1.map keyD), []) := id rfl
@[simp] theorem walk_keys : walk .keys [.ref a] h = wkO (h.get a) := by
  cases e : h.get a with
  | none => simp only [walk, e]; rfl
  | some o => cases o <;> (simp only [walk, e]; rfl)
def wiO (o : Option O) : Option (List D × List (Nat × O)) := match o with
  | some (.fzd kvs) => some (kvs.map fun kv => .tup [keyD kv.1, kv.2], [])
  | _ => none
@[simp] theorem wiO_d : wiO (some (.fzd kvs)) = some (kvs.map fun kv => .tup [keyD kv.1, kv.2], []) := id rfl
@[simp] theorem walk_items : walk .items [.ref a] h = wiO (h.get a) := by
  cases e : h.get a with
  | none => simp only [walk, e]; rfl
  | some o => cases o <;> (simp only [walk, e]; rfl)
def wvO (o : Option O) : Option (List D × List (Nat × O)) := match o with
  | some (.fzd kvs) => some (kvs.map fun kv => kv.2, [])
  | _ => none
@[simp] theorem wvO_d : wvO (some (.fzd kvs)) = some (kvs.map fun kv => kv.2, []) := id rfl
@[simp] theorem walk_vals : walk .vals [.ref a] h = wvO (h.get a) := by
  cases e : h.get a with
  | none => simp only [walk, e]; rfl
  | some o => cases o <;> (simp only [walk, e]; rfl)
@[simp] theorem inRO_z (x : D) : inRO x (some (.fzd kvs)) = ((key? x).map fun q => kget kvs q).map Option.isSome := id rfl
@[simp] theorem keyD_l (i : Int) : keyD (.inl i) = .int i := id rfl
@[simp] theorem keyD_r (i : Str) : keyD (.inr i) = .str i := id rfl
end
/-- a comprehension with a test that changes nothing -/
theorem compL_filA {α : Type} {fe : Env → Hm → Res D} {ft : Env → Hm → Res Bool} {g : Tg} {gd : List (Nat × O)} {a : Nat} {env : Env} (A F : α → D) (p : α → Bool) (G : Hm → Prop) (hs : ∀ h, G h → stays gd h) (hp : ∀ h o, G h → G (h.put a o)) : ∀ (cs : List α) (acc : List D) (h : Hm),
    (∀ x ∈ cs, ∃ env1, asgT g (A x) env = some env1 ∧ ∀ h, G h → ft env1 h = some (.ok (p x), h) ∧ (p x = true → fe env1 h = some (.ok (F x), h))) → G h → h.get a = some (.lst acc) → acc.length + cs.length ≤ 1000000 →
    compL fe ft g gd a env (cs.map A) h = some (.ok (.ref a), h.put a (.lst (acc ++ (cs.filter p).map F)))
  | [], acc, h, hx, g0, ha, hl => by rw [List.map_nil, compL_nil (hs h g0), List.filter_nil, List.map_nil, List.append_nil, put_self ha]
  | x :: xs, acc, h, hx, g0, ha, hl => by
    obtain ⟨env1, e1, e2⟩ := hx x (List.mem_cons_self ..)
    obtain ⟨e3, e4⟩ := e2 h g0
    rw [List.length_cons] at hl
    rw [List.map_cons]
    unfold compL
    rw [if_pos (hs h g0), e1]
    cases hb : p x with
    | false =>
      rw [List.filter_cons, hb]
      simp only [e3, hb, bndN_ok]
      exact compL_filA A F p G hs hp xs acc h (fun y hy => hx y (List.mem_cons_of_mem _ hy)) g0 ha (by omega)
    | true =>
      have hlt : acc.length < lim := by unfold lim; omega
      rw [List.filter_cons, hb, if_pos rfl, List.map_cons]
      simp only [e3, hb, e4 hb, bndN_ok, if_true, ha, hlt]
      rw [compL_filA A F p G hs hp xs (acc ++ [F x]) _ (fun y hy => hx y (List.mem_cons_of_mem _ hy)) (hp _ _ g0) (by rw [put_get, if_pos rfl]) (by rw [List.length_append]; simp; omega), put_put, List.append_assoc]
      rfl
theorem compL_fil {α : Type} {fe : Env → Hm → Res D} {ft : Env → Hm → Res Bool} {g : Tg} {gd : List (Nat × O)} {env : Env} {h : Hm} {cs : List α} {a : Nat} (A F : α → D) (p : α → Bool) (G : Hm → Prop) (ea : a = h.next) (hs : ∀ h, G h → stays gd h) (hp : ∀ h' o, G h' → G (h'.put a o))
    (hx : ∀ x ∈ cs, ∃ env1, asgT g (A x) env = some env1 ∧ ∀ h, G h → ft env1 h = some (.ok (p x), h) ∧ (p x = true → fe env1 h = some (.ok (F x), h))) (g0 : G (h.new (.lst []))) (hl : cs.length ≤ 1000000) :
    compL fe ft g gd a env (cs.map A) (h.new (.lst [])) = some (.ok (.ref a), h.new (.lst ((cs.filter p).map F))) := by
  subst ea
  rw [compL_filA A F p G hs hp cs [] _ hx g0 (by rw [new_get, if_pos rfl]) (by simpa using hl), new_put]; rfl
theorem asgS {r : Res D} {v : D} {R : Hm → Prop} {env : Env} {f : D → Hm → Out} (e : ∃ g, r = some (.ok v, g) ∧ R g) : ∃ g, @toSI _ r env f = f v g ∧ R g := by
  obtain ⟨g, rfl, h⟩ := e
  exact ⟨g, rfl, h⟩
/-- a loop's body -/
def S.bd : S → S
  | .for_ _ _ _ b => b
  | .wh _ b => b
  | .lck _ (.for_ _ _ _ b) => b
  | s => s
def dicO (o : Option O) (h : Hm) : Res D := match o with
  | some (.dic kvs) => ok (.ref h.next) (h.new (.dic kvs))
  | _ => none
@[simp] theorem dicO_d {kvs : List (L2.Key × D)} {h : Hm} : dicO (some (.dic kvs)) h = some (.ok (.ref h.next), h.new (.dic kvs)) := id rfl
@[simp] theorem bi_dict {a : Nat} {h : Hm} : biD .dict [.ref a] h = dicO (h.get a) h := by
  cases e : h.get a with
  | none => simp only [biD, e]; rfl
  | some o => cases o <;> (simp only [biD, e]; rfl)
@[simp] theorem in_tupT (is own : List Nat) : Tg.in_ (.tup is) own = is.all own.contains := id rfl
section
variable {P : Prog} {cl : Cl} {env : Env} {h : Hm}
@[simp] theorem ex_par (i j : Nat) (es : Es) : ex P cl (.par i j es) env h = @toSI _ (evs P cl es env h) env fun vs h1 => (match vs with
    | [x, y] => nxt ((env.set i (some x)).set j (some y)) h1
    | _ => none) := by rw [ex]; rfl
/-- a try whose body comes to its end -/
theorem ex_try_nx {b s : S} {c : String} {x : Option Nat} {env2 : Env} {h2 : Hm} (e : ex P cl b env h = some (.nx, env2, h2)) : ex P cl (.try_ b c x s) env h = some (.nx, env2, h2) := by rw [ex, e]
/-- a try whose body's error is caught -/
theorem ex_try_ex {b s : S} {c k : String} {env2 env3 : Env} {h2 h3 : Hm} (e : ex P cl b env h = some (.ex k, env2, h2)) (hk : P.exm k c = some true) (e2 : ex P cl s env2 h2 = some (.nx, env3, h3)) : ex P cl (.try_ b c none s) env h = some (.nx, env3, h3) := by
  rw [ex, e]
  simp only [hk, e2]
def walkZ (o o' : Option O) (a b : Nat) : Option (List D × List (Nat × O)) := match o, o' with
  | some (.lst xs), some (.lst ys) => some ((xs.zip ys).map fun p => .tup [p.1, p.2], [(a, .lst xs), (b, .lst ys)])
  | _, _ => none
@[simp] theorem walkZ_l {xs ys : List D} {a b : Nat} : walkZ (some (.lst xs)) (some (.lst ys)) a b = some ((xs.zip ys).map fun p => .tup [p.1, p.2], [(a, .lst xs), (b, .lst ys)]) := id rfl
@[simp] theorem walk_zip {a b : Nat} : walk .zip [.ref a, .ref b] h = walkZ (h.get a) (h.get b) a b := by
  cases e : h.get a with
  | none => simp only [walk, e]; rfl
  | some o =>
    cases e2 : h.get b with
    | none => simp only [walk, e, e2]; cases o <;> rfl
    | some o2 => simp only [walk, e, e2]; cases o <;> cases o2 <;> rfl
end
/-- a loop that only reads, left at the first c with p c -/
theorem findF {α : Type} {fb : Env → Hm → Out} {g : Tg} {gd : List (Nat × O)} {cs : List α} (Q : Out → Prop) (A : α → D) (p : α → Bool) (E : Env → Prop) {env : Env} {h : Hm} {k : Env → Hm → Out} (e0 : E env) (hs : stays gd h)
    (go : ∀ c ∈ cs, p c = false → ∀ env, E env → ∃ env1, asgT g (A c) env = some env1 ∧ ∃ env2, fb env1 h = some (.nx, env2, h) ∧ E env2)
    (out : ∀ c, cs.find? p = some c → ∀ env, E env → ∃ env1, asgT g (A c) env = some env1 ∧ ∃ r env2, fb env1 h = some (.rt r, env2, h) ∧ Q (some (.rt r, env2, h)))
    (post : cs.find? p = none → ∀ env', E env' → Q (k env' h)) : Q (@thenSI (forL fb g gd (cs.map A) env h) k) := by
  refine relX Q A (fun d env h' => E env ∧ h' = h ∧ ∀ c ∈ d, p c = false) ⟨e0, rfl, fun c hc => by cases hc⟩ (fun d env h' i => i.2.1 ▸ hs) ?_ ?_
  · rintro d c rest env h' e ⟨i1, rfl, i3⟩
    have hc : c ∈ cs := by rw [e]; simp
    cases hp : p c with
    | false =>
      obtain ⟨env1, e1, env2, e2, e3⟩ := go c hc hp env i1
      refine ⟨env1, e1, Or.inl ⟨env2, h', e2, e3, rfl, fun z hz => ?_⟩⟩
      rcases List.mem_append.mp hz with hz | hz
      · exact i3 z hz
      · rw [List.mem_singleton.mp hz]; exact hp
    | true =>
      have hf : cs.find? p = some c := by
        have hn : d.find? p = none := List.find?_eq_none.mpr fun x hx => by rw [i3 x hx]; exact Bool.false_ne_true
        rw [e, List.find?_append, hn, List.find?_cons, hp]; rfl
      obtain ⟨env1, e1, r, env2, e2, q⟩ := out c hf env i1
      exact ⟨env1, e1, Or.inr ⟨r, env2, h', e2, q⟩⟩
  · rintro env' h' ⟨i1, rfl, i3⟩
    exact post (List.find?_eq_none.mpr fun x hx => by rw [i3 x hx]; exact Bool.false_ne_true) env' i1
/-- pairs of numbers -/
def prD (q : Int × Int) : D := .tup [.int q.1, .int q.2]
def prP (q : Int × Int) : PyData := .tuple [.int q.1, .int q.2]
theorem sh_pr (q : Int × Int) : SeqAt.shaped (prP q) = true := by simp [SeqAt.shaped, prP, PyData.canLay0, PyData.canLayAll0, PyData.depth, PyData.depthAll]
theorem dat_pr (h : Hm) (n : Nat) (q : Int × Int) : dat h (n + 1) (prD q) = some (prP q) := by unfold prD prP; rw [dat_tup]; simp [mapO]
theorem eqv_pr (q r : Int × Int) : PyData.eqv (prP q) (prP r) = decide (q = r) := by
  obtain ⟨a, b⟩ := q
  obtain ⟨c, d⟩ := r
  have := PySem.W.ked_eqvAll [a, b] [c, d]
  unfold prP
  rw [PyData.eqv]
  exact this.trans (by simp)
theorem ne_pr (q r : Int × Int) (h : Hm) : cmpD .ne (prD q) (prD r) h = some (!decide (q = r)) := by
  have e : cmpD .ne (prD q) (prD r) h = (eqPP (dat h 30 (prD q)) (dat h 30 (prD r))).map fun b => !b := rfl
  rw [e, dat_pr, dat_pr]
  simp only [eqPP, sh_pr, Bool.and_self, if_true, eqv_pr, Option.map_some]
theorem eq_pr (q r : Int × Int) (h : Hm) : cmpD .eq (prD q) (prD r) h = some (decide (q = r)) := by
  have e : cmpD .eq (prD q) (prD r) h = eqPP (dat h 30 (prD q)) (dat h 30 (prD r)) := rfl
  rw [e, dat_pr, dat_pr]
  simp only [eqPP, sh_pr, Bool.and_self, if_true, eqv_pr]
section
variable {P : Prog} {cl : Cl} {env : Env} {h : Hm}
@[simp] theorem ev_isx (i : Nat) (c : String) : ev P cl (.isx i c) env h = (match env[i]? with
    | some (some (.exc k a)) => if P.xk = some (k, a) then liftO ((P.exs k c).map .bl) h else none
    | _ => none) := by rw [ev] <;> rfl
@[simp] theorem ev_isxB (i : Nat) (c : String) : ev P cl (.isxB i c) env h = (match env[i]? with
    | some (some (.exc k a)) => if P.xk = some (k, a) then liftO ((P.exb k c).map .bl) h else none
    | _ => none) := by rw [ev] <;> rfl
/-- a try whose body's error is caught by name -/
theorem ex_try_as {b s : S} {c k : String} {i : Nat} {env2 env3 : Env} {h2 h3 : Hm} (e : ex P cl b env h = some (.ex k, env2, h2)) (hk : P.exm k c = some true)
    (e2 : ∀ a, ∃ env4, ex { P with xk := some (k, a) } cl s (env2.set i (some (.exc k a))) h2 = some (.nx, env4, h3) ∧ env4.set i none = env3) : ex P cl (.try_ b c (some i) s) env h = some (.nx, env3, h3) := by
  rw [ex, e]
  simp only [hk]
  refine oneA_ok fun a => ?_
  obtain ⟨env4, e4, e5⟩ := e2 a
  rw [e4, ← e5]; rfl
end
end Z

/-! several except clauses: nested tries in the model -/
namespace Z
open L2 PySem PySem.Spec PyProof.Rows
def nestT (b : S) : List (String × S) → S
  | [] => b
  | p :: r => nestT (.try_ b p.1 none p.2) r
abbrev hdT (K : PySem.W.Frag) (c : RC) (p : String × S) : Value × (Addr → Value → Option Addr → TS) := (.ref (ca K p.1), fun _ _ _ => rdS (c.with noW) p.2)
theorem rd_nest (c : RC) : ∀ (l : List (String × S)) (b : S) (D : Ends) (σ : L2.St) (H : Hp), rdS c (nestT b l) D σ H = rdS (c.with (wMany c.K c.W D (l.map (hdT c.K c)))) b D σ H
  | [], b, D, σ, H => rfl
  | p :: r, b, D, σ, H => by
    show rdS c (nestT (.try_ b p.1 none p.2) r) D σ H = _
    rw [rd_nest c r]; rfl
theorem ztryN {X : Cx} {c : RC} {b : S} (l : List (String × S)) {body : List Stmt} {h₀ : ExceptHandler} {hds : List ExceptHandler} {pos : Pos} (hK : c.K = X.K) (tk : Takes X c.W)
    (hb : ∀ (W : WX) (pn : List (Addr × Obj)) (xe : Value → Shared → Prop), Takes (X.tr pn xe) W → PassesOwn (model X.prog X.w) X.A X.env xe → PSs (X.tr pn xe) body (rdS (c.with W) b))
    (hh : HdsOk X (h₀ :: hds) (l.map (hdT X.K c)))
    (hs : X.stack = X.env :: X.outer := by rfl) (hf : X.env.frame = some X.env.locals := by rfl) :
    PS X (.Try body (h₀ :: hds) [] [] pos) (rdS c (nestT b l)) := by
  have h := ps_try_many (X := X) (tb := fun W => rdS (c.with W) b) (pos := pos) hs hf tk hb hh
  rw [← hK] at h
  have e : (rdS c (nestT b l)) = fun D σ H => rdS (c.with (wMany c.K c.W D (l.map (hdT c.K c)))) b D σ H := by
    funext D σ H
    exact rd_nest c l b D σ H
  rw [e]
  exact h
theorem zhN {X : Cx} {c : RC} : HdsOk X [] (([] : List (String × S)).map (hdT X.K c)) := .nil
theorem zhC {X : Cx} {c : RC} {cn : String} {s : S} {l : List (String × S)} {xn : Str} {suite : List Stmt} {b₀ : Stmt} {np pos' : Pos} {hds : List ExceptHandler} (hg : Gl X xn) (hm : X.mg xn = some (.ref (ca X.K cn)))
    (hsu : ∀ (a : Addr) (oe : Obj) (pn : List (Addr × Obj)), PSs (X.suite a ((a, oe) :: pn)) (b₀ :: suite) (rdS (c.with noW) s)) (r : HdsOk X hds (l.map (hdT X.K c))) (hd : (xn == ("__debug__" : Str)) = false := by decide) :
    HdsOk X (.ExceptHandler (some (.Name xn np)) none (b₀ :: suite) pos' :: hds) (((cn, s) :: l).map (hdT X.K c)) := .cons ⟨hg, hd, .inl hm⟩ (fun a oe cls d pn _ _ => hsu a oe pn) r
/-! rules for simp -/
def walkE (o : Option O) (a : Nat) : Option (List D × List (Nat × O)) := match o with
  | some (.lst xs) => some (xs.zipIdx.map fun p => .tup [.int (p.2 : Nat), p.1], [(a, .lst xs)])
  | _ => none
@[simp] theorem walkE_l {xs : List D} {a : Nat} : walkE (some (.lst xs)) a = some (xs.zipIdx.map fun p => .tup [.int (p.2 : Nat), p.1], [(a, .lst xs)]) := id rfl
theorem bi_lset {a : Nat} {ns : List Int} {h : Hm} (e : h.get a = some (.lst (ns.map D.int))) (nd : ns.Nodup) (hl : ns.length ≤ 4000) : biD .lset [.ref a] h = some (.ok (.int (ns.length : Nat)), h) := by
  have e2 : ints? (ns.map D.int) = some ns := by
    clear e nd hl
    induction ns with
    | nil => rfl
    | cons n ns ih => simp only [List.map_cons, ints?, ih, Option.map_some]
  simp only [biD, lstOf, e, e2, nd, hl, and_self, if_true]
  rfl
section
variable {P : Prog} {cl : Cl} {env : Env} {h : Hm}
@[simp] theorem ev_lrg (a : E) : ev P cl (.lrg a) env h = @bndI _ _ (ev P cl a env h) fun x h1 => (match x with
    | .int n => if 0 ≤ n ∧ n ≤ 1000000 then ok (.ref h1.next) (h1.new (.lst ((List.range n.toNat).map fun (i : Nat) => .int (i : Int)))) else none
    | _ => none) := by rw [ev] <;> rfl
@[simp] theorem ev_iso (a : E) (c : String) : ev P cl (.iso a c) env h = @bndI _ _ (ev P cl a env h) fun x h1 => (match x with
    | .xob k => liftO ((P.exs k c).map .bl) h1
    | _ => none) := by rw [ev] <;> rfl
@[simp] theorem ev_isoB (a : E) (c : String) : ev P cl (.isoB a c) env h = @bndI _ _ (ev P cl a env h) fun x h1 => (match x with
    | .xob k => liftO ((P.exb k c).map .bl) h1
    | _ => none) := by rw [ev] <;> rfl
/-- a try that hands its error on -/
theorem ex_keep_nx {b : S} {c : String} {i j : Nat} {env2 : Env} {h2 : Hm} (e : ex P cl b env h = some (.nx, env2, h2)) : ex P cl (.tryK b c i j) env h = some (.nx, env2, h2) := by rw [ex, e]
theorem ex_keep_ex {b : S} {c k : String} {i j : Nat} {env2 : Env} {h2 : Hm} (e : ex P cl b env h = some (.ex k, env2, h2)) (hk : P.exm k c = some true) (hi : i < env2.length) (hij : i ≠ j) :
    ex P cl (.tryK b c i j) env h = some (.nx, (env2.set j (some (.xob k))).set i none, h2) := by
  rw [ex, e]
  simp only [hk, hi, hij, ne_eq, not_false_eq_true, and_self, if_true, nxt]
def augO (op : Bop) (x v : D) (o : Option O) (k : Nat) (h3 : Hm) (p : Nat) (env : Env) : Out := match augD op x v, o with
  | some w, some (.lst ys) => if k < ys.length then nxt env (h3.put p (.lst (ys.set k w))) else none
  | _, _ => none
@[simp] theorem augO_add (i j : Int) (ys : List D) (k : Nat) (h3 : Hm) (p : Nat) (env : Env) : augO .add (.int i) (.int j) (some (.lst ys)) k h3 p env = if k < ys.length then nxt env (h3.put p (.lst (ys.set k (.int (i + j))))) else none := id rfl
@[simp] theorem augO_sub (i j : Int) (ys : List D) (k : Nat) (h3 : Hm) (p : Nat) (env : Env) : augO .sub (.int i) (.int j) (some (.lst ys)) k h3 p env = if k < ys.length then nxt env (h3.put p (.lst (ys.set k (.int (i - j))))) else none := id rfl
@[simp] theorem ex_augi (o i : E) (op : Bop) (e : E) : ex P cl (.augi o i op e) env h = @toSI _ (ev P cl o env h) env fun y h1 => @toSI _ (ev P cl i env h1) env fun z h2 => (match y, z with
    | .ref p, .int k => @lstI _ (h2.get p) fun xs => if 0 ≤ k then @someI _ _ (xs[k.toNat]?) fun x => @toSI _ (ev P cl e env h2) env fun v h3 => augO op x v (h3.get p) k.toNat h3 p env else none
    | _, _ => none) := by
  rw [ex]
  unfold toSI
  refine congrArg _ (funext fun y => funext fun h1 => congrArg _ (funext fun z => funext fun h2 => ?_))
  cases y <;> try rfl
  cases z <;> try rfl
  rename_i p k
  simp only [lstI, someI]
  cases h2.get p with
  | none => rfl
  | some ob =>
    cases ob <;> try rfl
    rename_i xs
    by_cases hk : 0 ≤ k
    · simp only [if_pos hk]
      cases xs[k.toNat]? with
      | none => rfl
      | some x =>
        refine congrArg (toS (ev P cl e env h2) env) (funext fun v => funext fun h3 => ?_)
        unfold augO
        cases augD op x v with
        | none => rfl
        | some w =>
          cases h3.get p with
          | none => rfl
          | some o2 => cases o2 <;> rfl
    · simp only [if_neg hk]
@[simp] theorem walk_enum {a : Nat} : walk .enum [.ref a] h = walkE (h.get a) a := by
  cases e : h.get a with
  | none => simp only [walk, e]; rfl
  | some o => simp only [walk, e]; cases o <;> rfl
end
end Z

set_option maxRecDepth 100000
set_option maxHeartbeats 0
namespace Z
namespace K09
open PySem PySem.Spec PyProof.Rows L2
/-! ### the text as data (printed by gen.py) -/
def top (i : Nat) : Stmt := PySem.Challenge.pw_meterhouse_k09_texts_refused.main.body.getD i (.Pass ⟨0, 0, 0, 0⟩)
-- numbered ['word']
def F_numbered : Fn := ⟨1, 1,
  .ret (.cmp .inn (.var 0) (.tup (.cons (.con (.str "push")) (.cons (.con (.str "copy")) (.cons (.con (.str "swap")) (.cons (.con (.str "jump")) (.cons (.con (.str "jumpif")) (.nil))))))))⟩
-- number_of ['text', 'sign', 'number']
def F_number_of : Fn := ⟨1, 3,
  .seq (.ite (.or (.cmp .lt (.bi .len (.cons (.var 0) (.nil))) (.con (.int 1))) (.cmp .gt (.bi .len (.cons (.var 0) (.nil))) (.con (.int 20)))) (.ret (.con .non)) (.skip)) (.seq (.for_ (.name 1) .seq (.cons (.var 0) .nil) (.ite (.cmp .nin (.var 1) (.glo "FIGURES")) (.ret (.con .non)) (.skip))) (.seq (.ite (.and (.cmp .eq (.idx (.var 0) (.con (.int 0))) (.con (.str "0"))) (.cmp .gt (.bi .len (.cons (.var 0) (.nil))) (.con (.int 1)))) (.ret (.con .non)) (.skip)) (.seq (.asg 2 (.bi .int (.cons (.var 0) (.nil)))) (.seq (.ite (.cmp .lt (.var 2) (.glo "WIDE")) (.ret (.var 2)) (.skip)) (.ret (.con .non))))))⟩
-- fits ['word', 'number', 'many']
def F_fits : Fn := ⟨3, 3,
  .seq (.ite (.cmp .eq (.var 0) (.con (.str "push"))) (.ret (.chn .le .lt (.con (.int 0)) (.var 1) (.glo "WIDE"))) (.skip)) (.seq (.ite (.cmp .eq (.var 0) (.con (.str "copy"))) (.ret (.chn .le .le (.con (.int 0)) (.var 1) (.con (.int 15)))) (.skip)) (.seq (.ite (.cmp .eq (.var 0) (.con (.str "swap"))) (.ret (.chn .le .le (.con (.int 1)) (.var 1) (.con (.int 15)))) (.skip)) (.ret (.chn .le .le (.con (.int 0)) (.var 1) (.var 2)))))⟩
-- right_row ['row', 'many', 'word']
def F_right_row : Fn := ⟨2, 3,
  .seq (.asg 2 (.idx (.var 0) (.con (.int 0)))) (.seq (.ite (.cmp .nin (.var 2) (.glo "WORDS")) (.ret (.con (.bl false))) (.skip)) (.seq (.ite (.not (.tru (.call "numbered" (.cons (.var 2) (.nil)) []))) (.ret (.cmp .eq (.bi .len (.cons (.var 0) (.nil))) (.con (.int 1)))) (.skip)) (.seq (.ite (.cmp .ne (.bi .len (.cons (.var 0) (.nil))) (.con (.int 2))) (.ret (.con (.bl false))) (.skip)) (.ret (.call "fits" (.cons (.var 2) (.cons (.idx (.var 0) (.con (.int 1))) (.cons (.var 1) (.nil)))) [])))))⟩
-- right ['rows', 'row']
def F_right : Fn := ⟨1, 2,
  .seq (.ite (.cmp .gt (.bi .len (.cons (.var 0) (.nil))) (.glo "MOST")) (.ret (.con (.bl false))) (.skip)) (.seq (.for_ (.name 1) .seq (.cons (.var 0) .nil) (.ite (.not (.tru (.call "right_row" (.cons (.var 1) (.cons (.bi .len (.cons (.var 0) (.nil))) (.nil))) []))) (.ret (.con (.bl false))) (.skip))) (.ret (.con (.bl true))))⟩
-- read_row ['part', 'pieces', 'number']
def F_read_row : Fn := ⟨1, 3,
  .seq (.asg 1 (.bm .partition (.var 0) (.cons (.con (.str " ")) (.nil)))) (.seq (.ite (.not (.tru (.call "numbered" (.cons (.idx (.var 1) (.con (.int 0))) (.nil)) []))) (.ret (.tup (.cons (.var 0) (.nil)))) (.skip)) (.seq (.asg 2 (.call "number_of" (.cons (.idx (.var 1) (.con (.int 2))) (.nil)) [])) (.seq (.ite (.cmp .isN (.var 2) (.con .non)) (.rai "NoCode") (.skip)) (.ret (.tup (.cons (.idx (.var 1) (.con (.int 0))) (.cons (.var 2) (.nil))))))))⟩
-- read ['text', 'rows', 'part']
def F_read : Fn := ⟨1, 3,
  .seq (.asg 1 (.lst (.nil))) (.seq (.ite (.cmp .ne (.var 0) (.con (.str ""))) (.for_ (.name 2) .seq (.cons (.bm .split (.var 0) (.cons (.con (.str "; ")) (.nil))) .nil) (.drop (.bm .append (.var 1) (.cons (.call "read_row" (.cons (.var 2) (.nil)) []) (.nil))))) (.skip)) (.seq (.ite (.not (.tru (.call "right" (.cons (.var 1) (.nil)) []))) (.rai "NoCode") (.skip)) (.ret (.var 1))))⟩
-- _law_cell_at ['_law_script', '_law_k']
def F_l_cell_at : Fn := ⟨2, 2,
  .seq (.ite (.cmp .lt (.var 1) (.bi .len (.cons (.var 0) (.nil)))) (.ret (.idx (.var 0) (.var 1))) (.skip)) (.ret (.con (.int 0)))⟩
-- _law_words ['_law_early', '_law_middle']
def F_l_words : Fn := ⟨0, 2,
  .seq (.asg 0 (.lst (.cons (.con (.str "push")) (.cons (.con (.str "drop")) (.cons (.con (.str "copy")) (.cons (.con (.str "swap")) (.cons (.con (.str "add")) (.cons (.con (.str "minus")) (.cons (.con (.str "times")) (.cons (.con (.str "over")) (.cons (.con (.str "rest")) (.cons (.con (.str "below")) (.cons (.con (.str "same")) (.cons (.con (.str "both")) (.nil))))))))))))))) (.seq (.asg 1 (.lst (.cons (.con (.str "either")) (.cons (.con (.str "unlike")) (.cons (.con (.str "up")) (.cons (.con (.str "down")) (.cons (.con (.str "jump")) (.cons (.con (.str "jumpif")) (.cons (.con (.str "load")) (.cons (.con (.str "save")) (.cons (.con (.str "me")) (.cons (.con (.str "from")) (.cons (.con (.str "sent")) (.cons (.con (.str "word")) (.nil))))))))))))))) (.ret (.bin .add (.bin .add (.var 0) (.var 1)) (.lst (.cons (.con (.str "coin")) (.cons (.con (.str "note")) (.cons (.con (.str "call")) (.cons (.con (.str "borrow")) (.cons (.con (.str "look")) (.cons (.con (.str "give")) (.cons (.con (.str "fail")) (.nil))))))))))))⟩
-- _law_row_by ['_law_cell', '_law_many', '_law_word', '_law_part_here']
def F_l_row_by : Fn := ⟨2, 4,
  .seq (.asg 2 (.idx (.call "_law_words" (.nil) []) (.bin .mod (.var 0) (.con (.int 31))))) (.seq (.asg 3 (.bin .fdiv (.var 0) (.con (.int 31)))) (.seq (.ite (.cmp .eq (.var 2) (.con (.str "push"))) (.ret (.tup (.cons (.var 2) (.cons (.bin .mod (.var 3) (.bin .pow (.con (.int 2)) (.con (.int 64)))) (.nil))))) (.skip)) (.seq (.ite (.cmp .eq (.var 2) (.con (.str "copy"))) (.ret (.tup (.cons (.var 2) (.cons (.bin .mod (.var 3) (.con (.int 16))) (.nil))))) (.skip)) (.seq (.ite (.cmp .eq (.var 2) (.con (.str "swap"))) (.ret (.tup (.cons (.var 2) (.cons (.bin .add (.con (.int 1)) (.bin .mod (.var 3) (.con (.int 15)))) (.nil))))) (.skip)) (.seq (.ite (.or (.cmp .eq (.var 2) (.con (.str "jump"))) (.cmp .eq (.var 2) (.con (.str "jumpif")))) (.ret (.tup (.cons (.var 2) (.cons (.bin .mod (.var 3) (.bin .add (.var 1) (.con (.int 1)))) (.nil))))) (.skip)) (.ret (.tup (.cons (.var 2) (.nil)))))))))⟩
-- _law_part ['_law_row']
def F_l_part : Fn := ⟨1, 1,
  .seq (.ite (.cmp .eq (.bi .len (.cons (.var 0) (.nil))) (.con (.int 1))) (.ret (.idx (.var 0) (.con (.int 0)))) (.skip)) (.ret (.bin .add (.bin .add (.idx (.var 0) (.con (.int 0))) (.con (.str " "))) (.bi .str (.cons (.idx (.var 0) (.con (.int 1))) (.nil)))))⟩
-- _law_wrong ['_law_number', '_law_many', '_law_some', '_law_word', '_law_odd']
def F_l_wrong : Fn := ⟨2, 5,
  .seq (.asg 2 (.lst (.cons (.con (.str " ")) (.cons (.con (.str "push")) (.cons (.con (.str "push ")) (.cons (.con (.str "push 01")) (.cons (.con (.str "push  1")) (.cons (.con (.str "push 1 ")) (.cons (.con (.str " push 1")) (.cons (.con (.str "push -1")) (.cons (.con (.str "push +1")) (.cons (.con (.str "push 00")) (.nil))))))))))))) (.seq (.asg 2 (.bin .add (.var 2) (.lst (.cons (.con (.str "push 18446744073709551616")) (.cons (.con (.str "push 99999999999999999999")) (.cons (.con (.str "push 100000000000000000000")) (.nil))))))) (.seq (.asg 2 (.bin .add (.var 2) (.lst (.cons (.con (.str "copy 16")) (.cons (.con (.str "copy")) (.cons (.con (.str "swap 0")) (.cons (.con (.str "swap 16")) (.cons (.con (.str "swap 1a")) (.cons (.con (.str "drop 1")) (.cons (.con (.str "drop ")) (.cons (.con (.str " add")) (.cons (.con (.str "Add")) (.cons (.con (.str "ADD")) (.nil)))))))))))))) (.seq (.asg 2 (.bin .add (.var 2) (.lst (.cons (.con (.str "jumpif")) (.cons (.con (.str "jump x")) (.cons (.bin .add (.con (.str "jump ")) (.bi .str (.cons (.bin .add (.var 1) (.con (.int 1))) (.nil)))) (.cons (.bin .add (.con (.str "jumpif ")) (.bi .str (.cons (.bin .add (.var 1) (.con (.int 60))) (.nil)))) (.cons (.con (.str "jumpif1")) (.cons (.con (.str "copy 1;")) (.nil)))))))))) (.seq (.asg 2 (.bin .add (.var 2) (.lst (.cons (.con (.str "add;drop")) (.cons (.con (.str "push 1;add")) (.cons (.con (.str "push 1,")) (.cons (.con (.str "7")) (.cons (.con (.str "push push")) (.cons (.con (.str "push 1 2")) (.cons (.con (.str "none")) (.cons (.con (.str "push1")) (.cons (.con (.str "give 0")) (.nil))))))))))))) (.seq (.asg 2 (.bin .add (.var 2) (.lst (.cons (.bin .add (.con (.str "push ")) (.bi .str (.cons (.bin .add (.bin .pow (.con (.int 2)) (.con (.int 64))) (.var 0)) (.nil)))) (.cons (.bin .add (.con (.str "jump ")) (.bi .str (.cons (.bin .add (.bin .add (.var 1) (.con (.int 1))) (.var 0)) (.nil)))) (.cons (.idx (.lst (.cons (.con (.str "")) (.cons (.con (.str " ")) (.nil)))) (.bi .int (.cons (.cmp .lt (.var 1) (.con (.int 2))) (.nil)))) (.nil))))))) (.seq (.asg 3 (.idx (.lst (.cons (.con (.str "push")) (.cons (.con (.str "copy")) (.cons (.con (.str "swap")) (.cons (.con (.str "jump")) (.cons (.con (.str "jumpif")) (.nil))))))) (.bin .mod (.bin .fdiv (.var 0) (.con (.int 53))) (.con (.int 5))))) (.seq (.asg 2 (.bin .add (.var 2) (.comp (.bin .add (.bin .add (.var 3) (.con (.str " "))) (.var 4)) [4] (.name 4) .seq (.cons (.lst (.cons (.con (.str " 1")) (.cons (.con (.str "1 ")) (.cons (.con (.str "01")) (.cons (.con (.str "-1")) (.cons (.con (.str "+1")) (.cons (.con (.str "00")) (.cons (.con (.str "1_0")) (.nil))))))))) .nil) (.yes)))) (.ret (.idx (.var 2) (.bin .mod (.var 0) (.bi .len (.cons (.var 2) (.nil)))))))))))))⟩
-- _law_alike ['_law_found', '_law_row', '_law_k']
def F_l_alike : Fn := ⟨2, 3,
  .seq (.ite (.or (.not (.tru (.isi (.var 0) .tuple))) (.cmp .ne (.bi .len (.cons (.var 0) (.nil))) (.bi .len (.cons (.var 1) (.nil))))) (.ret (.con (.bl false))) (.skip)) (.seq (.for_ (.name 2) .range1 (.cons (.bi .len (.cons (.var 1) (.nil))) (.nil)) (.ite (.or (.tru (.isi (.idx (.var 0) (.var 2)) .bool)) (.or (.not (.tru (.isi2 (.idx (.var 0) (.var 2)) .int .str))) (.cmp .ne (.idx (.var 0) (.var 2)) (.idx (.var 1) (.var 2))))) (.ret (.con (.bl false))) (.skip))) (.ret (.con (.bl true))))⟩
-- _law_rows ['_law_found', '_law_rows_here', '_law_k']
def F_l_rows : Fn := ⟨2, 3,
  .seq (.ite (.or (.not (.tru (.isi (.var 0) .list))) (.cmp .ne (.bi .len (.cons (.var 0) (.nil))) (.bi .len (.cons (.var 1) (.nil))))) (.ret (.con (.bl false))) (.skip)) (.seq (.for_ (.name 2) .range1 (.cons (.bi .len (.cons (.var 1) (.nil))) (.nil)) (.ite (.not (.tru (.call "_law_alike" (.cons (.idx (.var 0) (.var 2)) (.cons (.idx (.var 1) (.var 2)) (.nil))) []))) (.ret (.con (.bl false))) (.skip))) (.ret (.con (.bl true))))⟩
-- _law_other ['_law_e']
def F_l_other : Fn := ⟨1, 1,
  .seq (.ite (.or (.tru (.iso (.var 0) "NoClash")) (.or (.tru (.iso (.var 0) "NoSlot")) (.or (.tru (.iso (.var 0) "Taken")) (.tru (.iso (.var 0) "NoNumber"))))) (.ret (.con (.bl true))) (.skip)) (.seq (.ite (.or (.tru (.iso (.var 0) "TooMuch")) (.or (.tru (.iso (.var 0) "NoAccount")) (.or (.tru (.iso (.var 0) "NoLimit")) (.tru (.iso (.var 0) "PoorPurse"))))) (.ret (.con (.bl true))) (.skip)) (.ret (.or (.iso (.var 0) "PoorCoin") (.or (.iso (.var 0) "NoPaper") (.iso (.var 0) "NoRow")))))⟩
-- _law_refused ['_law_signs', '_law_error', '_law_e']
def F_l_refused : Fn := ⟨1, 3,
  .seq (.asg 1 (.con .non)) (.seq (.tryK (.drop (.call "read" (.cons (.var 0) (.nil)) [])) "NoCode" 2 1) (.seq (.ite (.or (.cmp .isN (.var 1) (.con .non)) (.or (.not (.tru (.iso (.var 1) "HouseError"))) (.not (.tru (.isoB (.var 1) "ValueError"))))) (.ret (.con (.bl false))) (.skip)) (.ret (.not (.call "_law_other" (.cons (.var 1) (.nil)) [])))))⟩
-- _law_refused_by_any ['_law_signs', '_law_refused_here']
def F_l_refused_by_any : Fn := ⟨1, 2,
  .seq (.asg 1 (.con (.bl false))) (.seq (.try_ (.drop (.call "read" (.cons (.var 0) (.nil)) [])) "HouseError" none (.asg 1 (.con (.bl true)))) (.ret (.var 1)))⟩
-- law ['_law_script', '_law_cells', '_law_many', '_law_number', '_law_rows_here', '_law_parts', '_law_way', '_law_signs', '_law_cell', '_law_row', '_law_k']
def F_law : Fn := ⟨1, 11,
  .seq (.asg 1 (.bi .list (.cons (.slc (.var 0) (.some (.con (.int 2))) (.some (.con (.int 61)))) (.nil)))) (.seq (.asg 2 (.bin .add (.bi .len (.cons (.var 1) (.nil))) (.con (.int 1)))) (.seq (.asg 3 (.bin .mod (.bin .fdiv (.call "_law_cell_at" (.cons (.var 0) (.cons (.con (.int 1)) (.nil))) []) (.con (.int 60))) (.bin .pow (.con (.int 10)) (.con (.int 30))))) (.seq (.asg 4 (.comp (.call "_law_row_by" (.cons (.var 8) (.cons (.bi .len (.cons (.var 1) (.nil))) (.nil))) []) [8] (.name 8) .seq (.cons (.var 1) .nil) (.yes))) (.seq (.asg 5 (.comp (.call "_law_part" (.cons (.var 9) (.nil)) []) [9] (.name 9) .seq (.cons (.var 4) .nil) (.yes))) (.seq (.asg 6 (.bin .mod (.call "_law_cell_at" (.cons (.var 0) (.cons (.con (.int 0)) (.nil))) []) (.con (.int 8)))) (.seq (.ite (.cmp .lt (.var 6) (.con (.int 6))) (.drop (.bm .insert (.var 5) (.cons (.bin .mod (.call "_law_cell_at" (.cons (.var 0) (.cons (.con (.int 1)) (.nil))) []) (.var 2)) (.cons (.call "_law_wrong" (.cons (.var 3) (.cons (.var 2) (.nil))) []) (.nil))))) (.skip)) (.seq (.ite (.cmp .eq (.var 6) (.con (.int 6))) (.asg 5 (.comp (.con (.str "drop")) [10] (.name 10) .range1 (.cons (.bin .add (.con (.int 61)) (.bin .mod (.var 3) (.con (.int 9)))) (.nil)) (.yes))) (.skip)) (.seq (.asg 7 (.bm .join (.con (.str "; ")) (.cons (.var 5) (.nil)))) (.seq (.ite (.cmp .lt (.var 6) (.con (.int 7))) (.ret (.and (.call "_law_refused" (.cons (.var 7) (.nil)) []) (.call "_law_refused_by_any" (.cons (.var 7) (.nil)) []))) (.skip)) (.ret (.call "_law_rows" (.cons (.call "read" (.cons (.var 7) (.nil)) []) (.cons (.var 4) (.nil))) [])))))))))))⟩
/-! ### the program -/
def PR : Prog where
  fn := fun x => match x with | "numbered" => some F_numbered | "number_of" => some F_number_of | "fits" => some F_fits | "right_row" => some F_right_row | "right" => some F_right | "read_row" => some F_read_row | "read" => some F_read | "_law_cell_at" => some F_l_cell_at | "_law_words" => some F_l_words | "_law_row_by" => some F_l_row_by | "_law_part" => some F_l_part | "_law_wrong" => some F_l_wrong | "_law_alike" => some F_l_alike | "_law_rows" => some F_l_rows | "_law_other" => some F_l_other | "_law_refused" => some F_l_refused | "_law_refused_by_any" => some F_l_refused_by_any | "law" => some F_law | _ => none
  glob := fun x => match x with | "FIGURES" => some (.str "0123456789") | "MOST" => some (.int 60) | "WIDE" => some (.int 18446744073709551616) | "WORDS" => some (.tup [.str "push", .str "drop", .str "copy", .str "swap", .str "add", .str "minus", .str "times", .str "over", .str "rest", .str "below", .str "same", .str "both", .str "either", .str "unlike", .str "up", .str "down", .str "jump", .str "jumpif", .str "load", .str "save", .str "me", .str "from", .str "sent", .str "word", .str "coin", .str "note", .str "call", .str "borrow", .str "look", .str "give", .str "fail"]) | _ => none
  mt := fun x y => none
  fld := fun x y => false
  exm := fun x y => match x, y with | "NoCode", "HouseError" => some true | "NoCode", "NoCode" => some true | _, _ => none
  lf := 1000000
  exs := fun x y => match x, y with | "NoCode", "HouseError" => some true | "NoCode", "NoAccount" => some false | "NoCode", "NoClash" => some false | "NoCode", "NoLimit" => some false | "NoCode", "NoNumber" => some false | "NoCode", "NoPaper" => some false | "NoCode", "NoRow" => some false | "NoCode", "NoSlot" => some false | "NoCode", "PoorCoin" => some false | "NoCode", "PoorPurse" => some false | "NoCode", "Taken" => some false | "NoCode", "TooMuch" => some false | _, _ => none
  exb := fun x y => match x, y with | "NoCode", "ValueError" => some true | _, _ => none
theorem fn_numbered : PR.fn "numbered" = some F_numbered := by first | rfl | simp [PR]
theorem fn_number_of : PR.fn "number_of" = some F_number_of := by first | rfl | simp [PR]
theorem fn_fits : PR.fn "fits" = some F_fits := by first | rfl | simp [PR]
theorem fn_right_row : PR.fn "right_row" = some F_right_row := by first | rfl | simp [PR]
theorem fn_right : PR.fn "right" = some F_right := by first | rfl | simp [PR]
theorem fn_read_row : PR.fn "read_row" = some F_read_row := by first | rfl | simp [PR]
theorem fn_read : PR.fn "read" = some F_read := by first | rfl | simp [PR]
theorem fn_l_cell_at : PR.fn "_law_cell_at" = some F_l_cell_at := by first | rfl | simp [PR]
theorem fn_l_words : PR.fn "_law_words" = some F_l_words := by first | rfl | simp [PR]
theorem fn_l_row_by : PR.fn "_law_row_by" = some F_l_row_by := by first | rfl | simp [PR]
theorem fn_l_part : PR.fn "_law_part" = some F_l_part := by first | rfl | simp [PR]
theorem fn_l_wrong : PR.fn "_law_wrong" = some F_l_wrong := by first | rfl | simp [PR]
theorem fn_l_alike : PR.fn "_law_alike" = some F_l_alike := by first | rfl | simp [PR]
theorem fn_l_rows : PR.fn "_law_rows" = some F_l_rows := by first | rfl | simp [PR]
theorem fn_l_other : PR.fn "_law_other" = some F_l_other := by first | rfl | simp [PR]
theorem fn_l_refused : PR.fn "_law_refused" = some F_l_refused := by first | rfl | simp [PR]
theorem fn_l_refused_by_any : PR.fn "_law_refused_by_any" = some F_l_refused_by_any := by first | rfl | simp [PR]
theorem fn_law : PR.fn "law" = some F_law := by first | rfl | simp [PR]
@[simp] theorem gl_FIGURES : PR.glob "FIGURES" = some (.str "0123456789") := by first | rfl | simp [PR]
@[simp] theorem gl_MOST : PR.glob "MOST" = some (.int 60) := by first | rfl | simp [PR]
@[simp] theorem gl_WIDE : PR.glob "WIDE" = some (.int 18446744073709551616) := by first | rfl | simp [PR]
@[simp] theorem gl_WORDS : PR.glob "WORDS" = some (.tup [.str "push", .str "drop", .str "copy", .str "swap", .str "add", .str "minus", .str "times", .str "over", .str "rest", .str "below", .str "same", .str "both", .str "either", .str "unlike", .str "up", .str "down", .str "jump", .str "jumpif", .str "load", .str "save", .str "me", .str "from", .str "sent", .str "word", .str "coin", .str "note", .str "call", .str "borrow", .str "look", .str "give", .str "fail"]) := by first | rfl | simp [PR]
@[simp] theorem es_NoCode_HouseError : PR.exs "NoCode" "HouseError" = some true := by first | rfl | simp [PR]
@[simp] theorem es_NoCode_NoAccount : PR.exs "NoCode" "NoAccount" = some false := by first | rfl | simp [PR]
@[simp] theorem es_NoCode_NoClash : PR.exs "NoCode" "NoClash" = some false := by first | rfl | simp [PR]
@[simp] theorem es_NoCode_NoLimit : PR.exs "NoCode" "NoLimit" = some false := by first | rfl | simp [PR]
@[simp] theorem es_NoCode_NoNumber : PR.exs "NoCode" "NoNumber" = some false := by first | rfl | simp [PR]
@[simp] theorem es_NoCode_NoPaper : PR.exs "NoCode" "NoPaper" = some false := by first | rfl | simp [PR]
@[simp] theorem es_NoCode_NoRow : PR.exs "NoCode" "NoRow" = some false := by first | rfl | simp [PR]
@[simp] theorem es_NoCode_NoSlot : PR.exs "NoCode" "NoSlot" = some false := by first | rfl | simp [PR]
@[simp] theorem es_NoCode_PoorCoin : PR.exs "NoCode" "PoorCoin" = some false := by first | rfl | simp [PR]
@[simp] theorem es_NoCode_PoorPurse : PR.exs "NoCode" "PoorPurse" = some false := by first | rfl | simp [PR]
@[simp] theorem es_NoCode_Taken : PR.exs "NoCode" "Taken" = some false := by first | rfl | simp [PR]
@[simp] theorem es_NoCode_TooMuch : PR.exs "NoCode" "TooMuch" = some false := by first | rfl | simp [PR]
@[simp] theorem eb_NoCode_ValueError : PR.exb "NoCode" "ValueError" = some true := by first | rfl | simp [PR]
@[simp] theorem em_NoCode_HouseError : PR.exm "NoCode" "HouseError" = some true := by first | rfl | simp [PR]
@[simp] theorem em_NoCode_NoCode : PR.exm "NoCode" "NoCode" = some true := by first | rfl | simp [PR]
def gv (K : PySem.W.Frag) (x : String) : V := match x with | "FIGURES" => (.str "0123456789") | "MOST" => (.int 60) | "WIDE" => (.int 18446744073709551616) | "WORDS" => (.ref (ca K "WORDS")) | _ => .non
/-! ### where the defs stand -/
abbrev st_numbered : Stmt := top 17
theorem sc_numbered : FnScope ["word"] ["word"] (defScope st_numbered) := ⟨rfl, rfl, rfl, by decide +kernel, rfl, by decide +kernel, by decide +kernel⟩
def df_numbered : He.DefD := ⟨("numbered", none), "numbered", "numbered", defArgs st_numbered, defBody st_numbered, defScope st_numbered, [], []⟩
abbrev FN_numbered (K : PySem.W.Frag) (fd : FuncData) : Prop := FunD K "numbered" "numbered" (defArgs st_numbered) (defBody st_numbered) (defScope st_numbered) [] [] (He.fAd K ("numbered", none)) fd
abbrev st_number_of : Stmt := top 20
theorem sc_number_of : FnScope ["text", "sign", "number"] ["text"] (defScope st_number_of) := ⟨rfl, rfl, rfl, by decide +kernel, rfl, by decide +kernel, by decide +kernel⟩
def df_number_of : He.DefD := ⟨("number_of", none), "number_of", "number_of", defArgs st_number_of, defBody st_number_of, defScope st_number_of, [], []⟩
abbrev FN_number_of (K : PySem.W.Frag) (fd : FuncData) : Prop := FunD K "number_of" "number_of" (defArgs st_number_of) (defBody st_number_of) (defScope st_number_of) [] [] (He.fAd K ("number_of", none)) fd
abbrev st_fits : Stmt := top 23
theorem sc_fits : FnScope ["word", "number", "many"] ["word", "number", "many"] (defScope st_fits) := ⟨rfl, rfl, rfl, by decide +kernel, rfl, by decide +kernel, by decide +kernel⟩
def df_fits : He.DefD := ⟨("fits", none), "fits", "fits", defArgs st_fits, defBody st_fits, defScope st_fits, [], []⟩
abbrev FN_fits (K : PySem.W.Frag) (fd : FuncData) : Prop := FunD K "fits" "fits" (defArgs st_fits) (defBody st_fits) (defScope st_fits) [] [] (He.fAd K ("fits", none)) fd
abbrev st_right_row : Stmt := top 24
theorem sc_right_row : FnScope ["row", "many", "word"] ["row", "many"] (defScope st_right_row) := ⟨rfl, rfl, rfl, by decide +kernel, rfl, by decide +kernel, by decide +kernel⟩
def df_right_row : He.DefD := ⟨("right_row", none), "right_row", "right_row", defArgs st_right_row, defBody st_right_row, defScope st_right_row, [], []⟩
abbrev FN_right_row (K : PySem.W.Frag) (fd : FuncData) : Prop := FunD K "right_row" "right_row" (defArgs st_right_row) (defBody st_right_row) (defScope st_right_row) [] [] (He.fAd K ("right_row", none)) fd
abbrev st_right : Stmt := top 25
theorem sc_right : FnScope ["rows", "row"] ["rows"] (defScope st_right) := ⟨rfl, rfl, rfl, by decide +kernel, rfl, by decide +kernel, by decide +kernel⟩
def df_right : He.DefD := ⟨("right", none), "right", "right", defArgs st_right, defBody st_right, defScope st_right, [], []⟩
abbrev FN_right (K : PySem.W.Frag) (fd : FuncData) : Prop := FunD K "right" "right" (defArgs st_right) (defBody st_right) (defScope st_right) [] [] (He.fAd K ("right", none)) fd
abbrev st_read_row : Stmt := top 26
theorem sc_read_row : FnScope ["part", "pieces", "number"] ["part"] (defScope st_read_row) := ⟨rfl, rfl, rfl, by decide +kernel, rfl, by decide +kernel, by decide +kernel⟩
def df_read_row : He.DefD := ⟨("read_row", none), "read_row", "read_row", defArgs st_read_row, defBody st_read_row, defScope st_read_row, [], []⟩
abbrev FN_read_row (K : PySem.W.Frag) (fd : FuncData) : Prop := FunD K "read_row" "read_row" (defArgs st_read_row) (defBody st_read_row) (defScope st_read_row) [] [] (He.fAd K ("read_row", none)) fd
abbrev st_read : Stmt := top 27
theorem sc_read : FnScope ["text", "rows", "part"] ["text"] (defScope st_read) := ⟨rfl, rfl, rfl, by decide +kernel, rfl, by decide +kernel, by decide +kernel⟩
def df_read : He.DefD := ⟨("read", none), "read", "read", defArgs st_read, defBody st_read, defScope st_read, [], []⟩
abbrev FN_read (K : PySem.W.Frag) (fd : FuncData) : Prop := FunD K "read" "read" (defArgs st_read) (defBody st_read) (defScope st_read) [] [] (He.fAd K ("read", none)) fd
abbrev st_l_cell_at : Stmt := top 29
theorem sc_l_cell_at : FnScope ["_law_script", "_law_k"] ["_law_script", "_law_k"] (defScope st_l_cell_at) := ⟨rfl, rfl, rfl, by decide +kernel, rfl, by decide +kernel, by decide +kernel⟩
def df_l_cell_at : He.DefD := ⟨("_law_cell_at", none), "_law_cell_at", "_law_cell_at", defArgs st_l_cell_at, defBody st_l_cell_at, defScope st_l_cell_at, [], []⟩
abbrev FN_l_cell_at (K : PySem.W.Frag) (fd : FuncData) : Prop := FunD K "_law_cell_at" "_law_cell_at" (defArgs st_l_cell_at) (defBody st_l_cell_at) (defScope st_l_cell_at) [] [] (He.fAd K ("_law_cell_at", none)) fd
abbrev st_l_words : Stmt := top 30
theorem sc_l_words : FnScope ["_law_early", "_law_middle"] [] (defScope st_l_words) := ⟨rfl, rfl, rfl, by decide +kernel, rfl, by decide +kernel, by decide +kernel⟩
def df_l_words : He.DefD := ⟨("_law_words", none), "_law_words", "_law_words", defArgs st_l_words, defBody st_l_words, defScope st_l_words, [], []⟩
abbrev FN_l_words (K : PySem.W.Frag) (fd : FuncData) : Prop := FunD K "_law_words" "_law_words" (defArgs st_l_words) (defBody st_l_words) (defScope st_l_words) [] [] (He.fAd K ("_law_words", none)) fd
abbrev st_l_row_by : Stmt := top 31
theorem sc_l_row_by : FnScope ["_law_cell", "_law_many", "_law_word", "_law_part_here"] ["_law_cell", "_law_many"] (defScope st_l_row_by) := ⟨rfl, rfl, rfl, by decide +kernel, rfl, by decide +kernel, by decide +kernel⟩
def df_l_row_by : He.DefD := ⟨("_law_row_by", none), "_law_row_by", "_law_row_by", defArgs st_l_row_by, defBody st_l_row_by, defScope st_l_row_by, [], []⟩
abbrev FN_l_row_by (K : PySem.W.Frag) (fd : FuncData) : Prop := FunD K "_law_row_by" "_law_row_by" (defArgs st_l_row_by) (defBody st_l_row_by) (defScope st_l_row_by) [] [] (He.fAd K ("_law_row_by", none)) fd
abbrev st_l_part : Stmt := top 32
theorem sc_l_part : FnScope ["_law_row"] ["_law_row"] (defScope st_l_part) := ⟨rfl, rfl, rfl, by decide +kernel, rfl, by decide +kernel, by decide +kernel⟩
def df_l_part : He.DefD := ⟨("_law_part", none), "_law_part", "_law_part", defArgs st_l_part, defBody st_l_part, defScope st_l_part, [], []⟩
abbrev FN_l_part (K : PySem.W.Frag) (fd : FuncData) : Prop := FunD K "_law_part" "_law_part" (defArgs st_l_part) (defBody st_l_part) (defScope st_l_part) [] [] (He.fAd K ("_law_part", none)) fd
abbrev st_l_wrong : Stmt := top 33
theorem sc_l_wrong : FnScope ["_law_number", "_law_many", "_law_some", "_law_word", "_law_odd"] ["_law_number", "_law_many"] (defScope st_l_wrong) := ⟨rfl, rfl, rfl, by decide +kernel, rfl, by decide +kernel, by decide +kernel⟩
def df_l_wrong : He.DefD := ⟨("_law_wrong", none), "_law_wrong", "_law_wrong", defArgs st_l_wrong, defBody st_l_wrong, defScope st_l_wrong, [], []⟩
abbrev FN_l_wrong (K : PySem.W.Frag) (fd : FuncData) : Prop := FunD K "_law_wrong" "_law_wrong" (defArgs st_l_wrong) (defBody st_l_wrong) (defScope st_l_wrong) [] [] (He.fAd K ("_law_wrong", none)) fd
abbrev st_l_alike : Stmt := top 34
theorem sc_l_alike : FnScope ["_law_found", "_law_row", "_law_k"] ["_law_found", "_law_row"] (defScope st_l_alike) := ⟨rfl, rfl, rfl, by decide +kernel, rfl, by decide +kernel, by decide +kernel⟩
def df_l_alike : He.DefD := ⟨("_law_alike", none), "_law_alike", "_law_alike", defArgs st_l_alike, defBody st_l_alike, defScope st_l_alike, [], []⟩
abbrev FN_l_alike (K : PySem.W.Frag) (fd : FuncData) : Prop := FunD K "_law_alike" "_law_alike" (defArgs st_l_alike) (defBody st_l_alike) (defScope st_l_alike) [] [] (He.fAd K ("_law_alike", none)) fd
abbrev st_l_rows : Stmt := top 35
theorem sc_l_rows : FnScope ["_law_found", "_law_rows_here", "_law_k"] ["_law_found", "_law_rows_here"] (defScope st_l_rows) := ⟨rfl, rfl, rfl, by decide +kernel, rfl, by decide +kernel, by decide +kernel⟩
def df_l_rows : He.DefD := ⟨("_law_rows", none), "_law_rows", "_law_rows", defArgs st_l_rows, defBody st_l_rows, defScope st_l_rows, [], []⟩
abbrev FN_l_rows (K : PySem.W.Frag) (fd : FuncData) : Prop := FunD K "_law_rows" "_law_rows" (defArgs st_l_rows) (defBody st_l_rows) (defScope st_l_rows) [] [] (He.fAd K ("_law_rows", none)) fd
abbrev st_l_other : Stmt := top 36
theorem sc_l_other : FnScope ["_law_e"] ["_law_e"] (defScope st_l_other) := ⟨rfl, rfl, rfl, by decide +kernel, rfl, by decide +kernel, by decide +kernel⟩
def df_l_other : He.DefD := ⟨("_law_other", none), "_law_other", "_law_other", defArgs st_l_other, defBody st_l_other, defScope st_l_other, [], []⟩
abbrev FN_l_other (K : PySem.W.Frag) (fd : FuncData) : Prop := FunD K "_law_other" "_law_other" (defArgs st_l_other) (defBody st_l_other) (defScope st_l_other) [] [] (He.fAd K ("_law_other", none)) fd
abbrev st_l_refused : Stmt := top 37
theorem sc_l_refused : FnScope ["_law_signs", "_law_error", "_law_e"] ["_law_signs"] (defScope st_l_refused) := ⟨rfl, rfl, rfl, by decide +kernel, rfl, by decide +kernel, by decide +kernel⟩
def df_l_refused : He.DefD := ⟨("_law_refused", none), "_law_refused", "_law_refused", defArgs st_l_refused, defBody st_l_refused, defScope st_l_refused, [], []⟩
abbrev FN_l_refused (K : PySem.W.Frag) (fd : FuncData) : Prop := FunD K "_law_refused" "_law_refused" (defArgs st_l_refused) (defBody st_l_refused) (defScope st_l_refused) [] [] (He.fAd K ("_law_refused", none)) fd
abbrev st_l_refused_by_any : Stmt := top 38
theorem sc_l_refused_by_any : FnScope ["_law_signs", "_law_refused_here"] ["_law_signs"] (defScope st_l_refused_by_any) := ⟨rfl, rfl, rfl, by decide +kernel, rfl, by decide +kernel, by decide +kernel⟩
def df_l_refused_by_any : He.DefD := ⟨("_law_refused_by_any", none), "_law_refused_by_any", "_law_refused_by_any", defArgs st_l_refused_by_any, defBody st_l_refused_by_any, defScope st_l_refused_by_any, [], []⟩
abbrev FN_l_refused_by_any (K : PySem.W.Frag) (fd : FuncData) : Prop := FunD K "_law_refused_by_any" "_law_refused_by_any" (defArgs st_l_refused_by_any) (defBody st_l_refused_by_any) (defScope st_l_refused_by_any) [] [] (He.fAd K ("_law_refused_by_any", none)) fd
abbrev st_law : Stmt := top 39
theorem sc_law : FnScope ["_law_script", "_law_cells", "_law_many", "_law_number", "_law_rows_here", "_law_parts", "_law_way", "_law_signs", "_law_cell", "_law_row", "_law_k"] ["_law_script"] (defScope st_law) := ⟨rfl, rfl, rfl, by decide +kernel, rfl, by decide +kernel, by decide +kernel⟩
def df_law : He.DefD := ⟨("law", none), "law", "law", defArgs st_law, defBody st_law, defScope st_law, [], []⟩
abbrev FN_law (K : PySem.W.Frag) (fd : FuncData) : Prop := FunD K "law" "law" (defArgs st_law) (defBody st_law) (defScope st_law) [] [] (He.fAd K ("law", none)) fd
def dfs : List He.DefD := [df_numbered, df_number_of, df_fits, df_right_row, df_right, df_read_row, df_read, df_l_cell_at, df_l_words, df_l_row_by, df_l_part, df_l_wrong, df_l_alike, df_l_rows, df_l_other, df_l_refused, df_l_refused_by_any, df_law]
def fas : List He.Fa := [.free "ValueError", .free "bool", .free "int", .free "isinstance", .free "len", .free "list", .free "range", .free "str", .free "tuple", .glo "numbered", .glo "number_of", .glo "fits", .glo "right_row", .glo "right", .glo "read_row", .glo "read", .glo "_law_cell_at", .glo "_law_words", .glo "_law_row_by", .glo "_law_part", .glo "_law_wrong", .glo "_law_alike", .glo "_law_rows", .glo "_law_other", .glo "_law_refused", .glo "_law_refused_by_any", .glo "law", .glo "HouseError", .glo "NoAccount", .glo "NoClash", .glo "NoCode", .glo "NoLimit", .glo "NoNumber", .glo "NoPaper", .glo "NoRow", .glo "NoSlot", .glo "PoorCoin", .glo "PoorPurse", .glo "Taken", .glo "TooMuch", .str "FIGURES" "0123456789", .int "MOST" 60, .int "WIDE" 18446744073709551616, .glo "WORDS", .exc "NoCode"]
def exb (K : PySem.W.Frag) : Bool := tupZ K "WORDS" [.str "push", .str "drop", .str "copy", .str "swap", .str "add", .str "minus", .str "times", .str "over", .str "rest", .str "below", .str "same", .str "both", .str "either", .str "unlike", .str "up", .str "down", .str "jump", .str "jumpif", .str "load", .str "save", .str "me", .str "from", .str "sent", .str "word", .str "coin", .str "note", .str "call", .str "borrow", .str "look", .str "give", .str "fail"] && decide (PySem.W.exmOne K (.ref (ca K "NoCode")) (.ref (ca K "HouseError")) = some true) && decide (PySem.W.exmOne K (.ref (ca K "NoCode")) (.ref (ca K "NoCode")) = some true) && excB K "NoCode" && decide (PySem.W.kitOne K (.ref (ca K "NoCode")) (.ref (ca K "HouseError")) = some true) && decide (PySem.W.kitOne K (.ref (ca K "NoCode")) (.ref (ca K "NoAccount")) = some false) && decide (PySem.W.kitOne K (.ref (ca K "NoCode")) (.ref (ca K "NoClash")) = some false) && decide (PySem.W.kitOne K (.ref (ca K "NoCode")) (.ref (ca K "NoLimit")) = some false) && decide (PySem.W.kitOne K (.ref (ca K "NoCode")) (.ref (ca K "NoNumber")) = some false) && decide (PySem.W.kitOne K (.ref (ca K "NoCode")) (.ref (ca K "NoPaper")) = some false) && decide (PySem.W.kitOne K (.ref (ca K "NoCode")) (.ref (ca K "NoRow")) = some false) && decide (PySem.W.kitOne K (.ref (ca K "NoCode")) (.ref (ca K "NoSlot")) = some false) && decide (PySem.W.kitOne K (.ref (ca K "NoCode")) (.ref (ca K "PoorCoin")) = some false) && decide (PySem.W.kitOne K (.ref (ca K "NoCode")) (.ref (ca K "PoorPurse")) = some false) && decide (PySem.W.kitOne K (.ref (ca K "NoCode")) (.ref (ca K "Taken")) = some false) && decide (PySem.W.kitOne K (.ref (ca K "NoCode")) (.ref (ca K "TooMuch")) = some false) && decide (PySem.W.kitOne K (.ref (ca K "NoCode")) (.type "ValueError") = some true)
structure HF (K : PySem.W.Frag) (mg : Str → Option Value) : Prop where
  b_ValueError : mg "ValueError" = none
  b_bool : mg "bool" = none
  b_int : mg "int" = none
  b_isinstance : mg "isinstance" = none
  b_len : mg "len" = none
  b_list : mg "list" = none
  b_range : mg "range" = none
  b_str : mg "str" = none
  b_tuple : mg "tuple" = none
  g_numbered : mg "numbered" = some (.ref (He.fAd K ("numbered", none)))
  g_number_of : mg "number_of" = some (.ref (He.fAd K ("number_of", none)))
  g_fits : mg "fits" = some (.ref (He.fAd K ("fits", none)))
  g_right_row : mg "right_row" = some (.ref (He.fAd K ("right_row", none)))
  g_right : mg "right" = some (.ref (He.fAd K ("right", none)))
  g_read_row : mg "read_row" = some (.ref (He.fAd K ("read_row", none)))
  g_read : mg "read" = some (.ref (He.fAd K ("read", none)))
  g__law_cell_at : mg "_law_cell_at" = some (.ref (He.fAd K ("_law_cell_at", none)))
  g__law_words : mg "_law_words" = some (.ref (He.fAd K ("_law_words", none)))
  g__law_row_by : mg "_law_row_by" = some (.ref (He.fAd K ("_law_row_by", none)))
  g__law_part : mg "_law_part" = some (.ref (He.fAd K ("_law_part", none)))
  g__law_wrong : mg "_law_wrong" = some (.ref (He.fAd K ("_law_wrong", none)))
  g__law_alike : mg "_law_alike" = some (.ref (He.fAd K ("_law_alike", none)))
  g__law_rows : mg "_law_rows" = some (.ref (He.fAd K ("_law_rows", none)))
  g__law_other : mg "_law_other" = some (.ref (He.fAd K ("_law_other", none)))
  g__law_refused : mg "_law_refused" = some (.ref (He.fAd K ("_law_refused", none)))
  g__law_refused_by_any : mg "_law_refused_by_any" = some (.ref (He.fAd K ("_law_refused_by_any", none)))
  g_law : mg "law" = some (.ref (He.fAd K ("law", none)))
  g_HouseError : mg "HouseError" = some (.ref (ca K "HouseError"))
  g_NoAccount : mg "NoAccount" = some (.ref (ca K "NoAccount"))
  g_NoClash : mg "NoClash" = some (.ref (ca K "NoClash"))
  g_NoCode : mg "NoCode" = some (.ref (ca K "NoCode"))
  g_NoLimit : mg "NoLimit" = some (.ref (ca K "NoLimit"))
  g_NoNumber : mg "NoNumber" = some (.ref (ca K "NoNumber"))
  g_NoPaper : mg "NoPaper" = some (.ref (ca K "NoPaper"))
  g_NoRow : mg "NoRow" = some (.ref (ca K "NoRow"))
  g_NoSlot : mg "NoSlot" = some (.ref (ca K "NoSlot"))
  g_PoorCoin : mg "PoorCoin" = some (.ref (ca K "PoorCoin"))
  g_PoorPurse : mg "PoorPurse" = some (.ref (ca K "PoorPurse"))
  g_Taken : mg "Taken" = some (.ref (ca K "Taken"))
  g_TooMuch : mg "TooMuch" = some (.ref (ca K "TooMuch"))
  k_FIGURES : Says mg "FIGURES" (gv K "FIGURES")
  k_MOST : Says mg "MOST" (gv K "MOST")
  k_WIDE : Says mg "WIDE" (gv K "WIDE")
  k_WORDS : Says mg "WORDS" (gv K "WORDS")
  x_NoCode : (He.Fa.exc "NoCode").ok K = true
  t_WORDS : tupZ K "WORDS" [.str "push", .str "drop", .str "copy", .str "swap", .str "add", .str "minus", .str "times", .str "over", .str "rest", .str "below", .str "same", .str "both", .str "either", .str "unlike", .str "up", .str "down", .str "jump", .str "jumpif", .str "load", .str "save", .str "me", .str "from", .str "sent", .str "word", .str "coin", .str "note", .str "call", .str "borrow", .str "look", .str "give", .str "fail"] = true
  e_NoCode_HouseError : PySem.W.exmOne K (.ref (ca K "NoCode")) (.ref (ca K "HouseError")) = some true
  e_NoCode_NoCode : PySem.W.exmOne K (.ref (ca K "NoCode")) (.ref (ca K "NoCode")) = some true
  xc_NoCode : ExcC K (ca K "NoCode")
  s_NoCode_HouseError : PySem.W.kitOne K (.ref (ca K "NoCode")) (.ref (ca K "HouseError")) = some true
  s_NoCode_NoAccount : PySem.W.kitOne K (.ref (ca K "NoCode")) (.ref (ca K "NoAccount")) = some false
  s_NoCode_NoClash : PySem.W.kitOne K (.ref (ca K "NoCode")) (.ref (ca K "NoClash")) = some false
  s_NoCode_NoLimit : PySem.W.kitOne K (.ref (ca K "NoCode")) (.ref (ca K "NoLimit")) = some false
  s_NoCode_NoNumber : PySem.W.kitOne K (.ref (ca K "NoCode")) (.ref (ca K "NoNumber")) = some false
  s_NoCode_NoPaper : PySem.W.kitOne K (.ref (ca K "NoCode")) (.ref (ca K "NoPaper")) = some false
  s_NoCode_NoRow : PySem.W.kitOne K (.ref (ca K "NoCode")) (.ref (ca K "NoRow")) = some false
  s_NoCode_NoSlot : PySem.W.kitOne K (.ref (ca K "NoCode")) (.ref (ca K "NoSlot")) = some false
  s_NoCode_PoorCoin : PySem.W.kitOne K (.ref (ca K "NoCode")) (.ref (ca K "PoorCoin")) = some false
  s_NoCode_PoorPurse : PySem.W.kitOne K (.ref (ca K "NoCode")) (.ref (ca K "PoorPurse")) = some false
  s_NoCode_Taken : PySem.W.kitOne K (.ref (ca K "NoCode")) (.ref (ca K "Taken")) = some false
  s_NoCode_TooMuch : PySem.W.kitOne K (.ref (ca K "NoCode")) (.ref (ca K "TooMuch")) = some false
  sb_NoCode_ValueError : PySem.W.kitOne K (.ref (ca K "NoCode")) (.type "ValueError") = some true
  d_numbered : ∃ fd, FN_numbered K fd
  d_number_of : ∃ fd, FN_number_of K fd
  d_fits : ∃ fd, FN_fits K fd
  d_right_row : ∃ fd, FN_right_row K fd
  d_right : ∃ fd, FN_right K fd
  d_read_row : ∃ fd, FN_read_row K fd
  d_read : ∃ fd, FN_read K fd
  d_l_cell_at : ∃ fd, FN_l_cell_at K fd
  d_l_words : ∃ fd, FN_l_words K fd
  d_l_row_by : ∃ fd, FN_l_row_by K fd
  d_l_part : ∃ fd, FN_l_part K fd
  d_l_wrong : ∃ fd, FN_l_wrong K fd
  d_l_alike : ∃ fd, FN_l_alike K fd
  d_l_rows : ∃ fd, FN_l_rows K fd
  d_l_other : ∃ fd, FN_l_other K fd
  d_l_refused : ∃ fd, FN_l_refused K fd
  d_l_refused_by_any : ∃ fd, FN_l_refused_by_any K fd
  d_law : ∃ fd, FN_law K fd
theorem hf_of {K : PySem.W.Frag} {h : Heap} {mg : Str → Option Value} (X : K.In h) (G : h.Ns mainGlobals mg) (c : SaysZ fas dfs exb K) : HF K mg :=
  ⟨He.free_ok X G (c.d.fact 0 (f := .free "ValueError") rfl),
   He.free_ok X G (c.d.fact 1 (f := .free "bool") rfl),
   He.free_ok X G (c.d.fact 2 (f := .free "int") rfl),
   He.free_ok X G (c.d.fact 3 (f := .free "isinstance") rfl),
   He.free_ok X G (c.d.fact 4 (f := .free "len") rfl),
   He.free_ok X G (c.d.fact 5 (f := .free "list") rfl),
   He.free_ok X G (c.d.fact 6 (f := .free "range") rfl),
   He.free_ok X G (c.d.fact 7 (f := .free "str") rfl),
   He.free_ok X G (c.d.fact 8 (f := .free "tuple") rfl),
   He.glo_ok X G (c.d.fact 9 (f := .glo "numbered") rfl),
   He.glo_ok X G (c.d.fact 10 (f := .glo "number_of") rfl),
   He.glo_ok X G (c.d.fact 11 (f := .glo "fits") rfl),
   He.glo_ok X G (c.d.fact 12 (f := .glo "right_row") rfl),
   He.glo_ok X G (c.d.fact 13 (f := .glo "right") rfl),
   He.glo_ok X G (c.d.fact 14 (f := .glo "read_row") rfl),
   He.glo_ok X G (c.d.fact 15 (f := .glo "read") rfl),
   He.glo_ok X G (c.d.fact 16 (f := .glo "_law_cell_at") rfl),
   He.glo_ok X G (c.d.fact 17 (f := .glo "_law_words") rfl),
   He.glo_ok X G (c.d.fact 18 (f := .glo "_law_row_by") rfl),
   He.glo_ok X G (c.d.fact 19 (f := .glo "_law_part") rfl),
   He.glo_ok X G (c.d.fact 20 (f := .glo "_law_wrong") rfl),
   He.glo_ok X G (c.d.fact 21 (f := .glo "_law_alike") rfl),
   He.glo_ok X G (c.d.fact 22 (f := .glo "_law_rows") rfl),
   He.glo_ok X G (c.d.fact 23 (f := .glo "_law_other") rfl),
   He.glo_ok X G (c.d.fact 24 (f := .glo "_law_refused") rfl),
   He.glo_ok X G (c.d.fact 25 (f := .glo "_law_refused_by_any") rfl),
   He.glo_ok X G (c.d.fact 26 (f := .glo "law") rfl),
   He.glo_ok X G (c.d.fact 27 (f := .glo "HouseError") rfl),
   He.glo_ok X G (c.d.fact 28 (f := .glo "NoAccount") rfl),
   He.glo_ok X G (c.d.fact 29 (f := .glo "NoClash") rfl),
   He.glo_ok X G (c.d.fact 30 (f := .glo "NoCode") rfl),
   He.glo_ok X G (c.d.fact 31 (f := .glo "NoLimit") rfl),
   He.glo_ok X G (c.d.fact 32 (f := .glo "NoNumber") rfl),
   He.glo_ok X G (c.d.fact 33 (f := .glo "NoPaper") rfl),
   He.glo_ok X G (c.d.fact 34 (f := .glo "NoRow") rfl),
   He.glo_ok X G (c.d.fact 35 (f := .glo "NoSlot") rfl),
   He.glo_ok X G (c.d.fact 36 (f := .glo "PoorCoin") rfl),
   He.glo_ok X G (c.d.fact 37 (f := .glo "PoorPurse") rfl),
   He.glo_ok X G (c.d.fact 38 (f := .glo "Taken") rfl),
   He.glo_ok X G (c.d.fact 39 (f := .glo "TooMuch") rfl),
   says_str X G (c.d.fact 40 (f := .str "FIGURES" "0123456789") rfl),
   says_int X G (c.d.fact 41 (f := .int "MOST" 60) rfl),
   says_int X G (c.d.fact 42 (f := .int "WIDE" 18446744073709551616) rfl),
   says_glo X G (c.d.fact 43 (f := .glo "WORDS") rfl),
   c.d.fact 44 (f := .exc "NoCode") rfl,
   (He.ba (He.ba (He.ba (He.ba (He.ba (He.ba (He.ba (He.ba (He.ba (He.ba (He.ba (He.ba (He.ba (He.ba (He.ba (He.ba c.more).1).1).1).1).1).1).1).1).1).1).1).1).1).1).1).1,
   of_decide_eq_true ((He.ba (He.ba (He.ba (He.ba (He.ba (He.ba (He.ba (He.ba (He.ba (He.ba (He.ba (He.ba (He.ba (He.ba (He.ba (He.ba c.more).1).1).1).1).1).1).1).1).1).1).1).1).1).1).1).2),
   of_decide_eq_true ((He.ba (He.ba (He.ba (He.ba (He.ba (He.ba (He.ba (He.ba (He.ba (He.ba (He.ba (He.ba (He.ba (He.ba (He.ba c.more).1).1).1).1).1).1).1).1).1).1).1).1).1).1).2),
   excC_ok ((He.ba (He.ba (He.ba (He.ba (He.ba (He.ba (He.ba (He.ba (He.ba (He.ba (He.ba (He.ba (He.ba (He.ba c.more).1).1).1).1).1).1).1).1).1).1).1).1).1).2),
   of_decide_eq_true ((He.ba (He.ba (He.ba (He.ba (He.ba (He.ba (He.ba (He.ba (He.ba (He.ba (He.ba (He.ba (He.ba c.more).1).1).1).1).1).1).1).1).1).1).1).1).2),
   of_decide_eq_true ((He.ba (He.ba (He.ba (He.ba (He.ba (He.ba (He.ba (He.ba (He.ba (He.ba (He.ba (He.ba c.more).1).1).1).1).1).1).1).1).1).1).1).2),
   of_decide_eq_true ((He.ba (He.ba (He.ba (He.ba (He.ba (He.ba (He.ba (He.ba (He.ba (He.ba (He.ba c.more).1).1).1).1).1).1).1).1).1).1).2),
   of_decide_eq_true ((He.ba (He.ba (He.ba (He.ba (He.ba (He.ba (He.ba (He.ba (He.ba (He.ba c.more).1).1).1).1).1).1).1).1).1).2),
   of_decide_eq_true ((He.ba (He.ba (He.ba (He.ba (He.ba (He.ba (He.ba (He.ba (He.ba c.more).1).1).1).1).1).1).1).1).2),
   of_decide_eq_true ((He.ba (He.ba (He.ba (He.ba (He.ba (He.ba (He.ba (He.ba c.more).1).1).1).1).1).1).1).2),
   of_decide_eq_true ((He.ba (He.ba (He.ba (He.ba (He.ba (He.ba (He.ba c.more).1).1).1).1).1).1).2),
   of_decide_eq_true ((He.ba (He.ba (He.ba (He.ba (He.ba (He.ba c.more).1).1).1).1).1).2),
   of_decide_eq_true ((He.ba (He.ba (He.ba (He.ba (He.ba c.more).1).1).1).1).2),
   of_decide_eq_true ((He.ba (He.ba (He.ba (He.ba c.more).1).1).1).2),
   of_decide_eq_true ((He.ba (He.ba (He.ba c.more).1).1).2),
   of_decide_eq_true ((He.ba (He.ba c.more).1).2),
   of_decide_eq_true ((He.ba c.more).2),
   c.d.def_ 0 (d := df_numbered) rfl,
   c.d.def_ 1 (d := df_number_of) rfl,
   c.d.def_ 2 (d := df_fits) rfl,
   c.d.def_ 3 (d := df_right_row) rfl,
   c.d.def_ 4 (d := df_right) rfl,
   c.d.def_ 5 (d := df_read_row) rfl,
   c.d.def_ 6 (d := df_read) rfl,
   c.d.def_ 7 (d := df_l_cell_at) rfl,
   c.d.def_ 8 (d := df_l_words) rfl,
   c.d.def_ 9 (d := df_l_row_by) rfl,
   c.d.def_ 10 (d := df_l_part) rfl,
   c.d.def_ 11 (d := df_l_wrong) rfl,
   c.d.def_ 12 (d := df_l_alike) rfl,
   c.d.def_ 13 (d := df_l_rows) rfl,
   c.d.def_ 14 (d := df_l_other) rfl,
   c.d.def_ 15 (d := df_l_refused) rfl,
   c.d.def_ 16 (d := df_l_refused_by_any) rfl,
   c.d.def_ 17 (d := df_law) rfl⟩
theorem facts {K : PySem.W.Frag} {mg : Str → Option Value} (T : HF K mg) : Facts PR K (gv K) where
  con := by
    intro x d h r n H
    simp only [PR] at h
    split at h
    · cases h; exact .str _
    · cases h; exact .int _
    · cases h; exact .int _
    · cases h; exact .tup (tupZ_ok T.t_WORDS H).1 (.cons (.str _) (.cons (.str _) (.cons (.str _) (.cons (.str _) (.cons (.str _) (.cons (.str _) (.cons (.str _) (.cons (.str _) (.cons (.str _) (.cons (.str _) (.cons (.str _) (.cons (.str _) (.cons (.str _) (.cons (.str _) (.cons (.str _) (.cons (.str _) (.cons (.str _) (.cons (.str _) (.cons (.str _) (.cons (.str _) (.cons (.str _) (.cons (.str _) (.cons (.str _) (.cons (.str _) (.cons (.str _) (.cons (.str _) (.cons (.str _) (.cons (.str _) (.cons (.str _) (.cons (.str _) (.cons (.str _) (.nil))))))))))))))))))))))))))))))))
    · cases h
  tup := by
    intro x xs h H
    simp only [PR] at h
    split at h
    · cases h
    · cases h
    · cases h
    · exact (tupZ_ok T.t_WORDS H).2
    · cases h
  fld := fun _ _ h => nomatch h
  sub := fun _ _ _ h => nomatch h
  exm := by
    intro k cm b h
    simp only [PR] at h
    split at h
    · cases h; exact T.e_NoCode_HouseError
    · cases h; exact T.e_NoCode_NoCode
    · cases h
  exs := by
    intro k cm b h
    simp only [PR] at h
    split at h
    · cases h; exact ⟨T.xc_NoCode, T.s_NoCode_HouseError⟩
    · cases h; exact ⟨T.xc_NoCode, T.s_NoCode_NoAccount⟩
    · cases h; exact ⟨T.xc_NoCode, T.s_NoCode_NoClash⟩
    · cases h; exact ⟨T.xc_NoCode, T.s_NoCode_NoLimit⟩
    · cases h; exact ⟨T.xc_NoCode, T.s_NoCode_NoNumber⟩
    · cases h; exact ⟨T.xc_NoCode, T.s_NoCode_NoPaper⟩
    · cases h; exact ⟨T.xc_NoCode, T.s_NoCode_NoRow⟩
    · cases h; exact ⟨T.xc_NoCode, T.s_NoCode_NoSlot⟩
    · cases h; exact ⟨T.xc_NoCode, T.s_NoCode_PoorCoin⟩
    · cases h; exact ⟨T.xc_NoCode, T.s_NoCode_PoorPurse⟩
    · cases h; exact ⟨T.xc_NoCode, T.s_NoCode_Taken⟩
    · cases h; exact ⟨T.xc_NoCode, T.s_NoCode_TooMuch⟩
    · cases h
  exb := by
    intro k cm b h
    simp only [PR] at h
    split at h
    · cases h; exact ⟨T.xc_NoCode, T.sb_NoCode_ValueError⟩
    · cases h
  nox := rfl
/-! ### each def, n calls deep -/
structure AL (P : Program) (w : World) (K : PySem.W.Frag) (mg : Str → Option Value) (base : Heap) (n : Nat) : Prop where
  numbered : Cal P w K mg base (L2.CX P w) (2 * n) (He.fAd K ("numbered", none)) ["word"] [] (spR PR K n "numbered")
  number_of : Cal P w K mg base (L2.CX P w) (2 * n) (He.fAd K ("number_of", none)) ["text"] [] (spR PR K n "number_of")
  fits : Cal P w K mg base (L2.CX P w) (2 * n) (He.fAd K ("fits", none)) ["word", "number", "many"] [] (spR PR K n "fits")
  right_row : Cal P w K mg base (L2.CX P w) (2 * n) (He.fAd K ("right_row", none)) ["row", "many"] [] (spR PR K n "right_row")
  right : Cal P w K mg base (L2.CX P w) (2 * n) (He.fAd K ("right", none)) ["rows"] [] (spR PR K n "right")
  read_row : Cal P w K mg base (L2.CX P w) (2 * n) (He.fAd K ("read_row", none)) ["part"] [] (spR PR K n "read_row")
  read : Cal P w K mg base (L2.CX P w) (2 * n) (He.fAd K ("read", none)) ["text"] [] (spR PR K n "read")
  l_cell_at : Cal P w K mg base (L2.CX P w) (2 * n) (He.fAd K ("_law_cell_at", none)) ["_law_script", "_law_k"] [] (spR PR K n "_law_cell_at")
  l_words : Cal P w K mg base (L2.CX P w) (2 * n) (He.fAd K ("_law_words", none)) [] [] (spR PR K n "_law_words")
  l_row_by : Cal P w K mg base (L2.CX P w) (2 * n) (He.fAd K ("_law_row_by", none)) ["_law_cell", "_law_many"] [] (spR PR K n "_law_row_by")
  l_part : Cal P w K mg base (L2.CX P w) (2 * n) (He.fAd K ("_law_part", none)) ["_law_row"] [] (spR PR K n "_law_part")
  l_wrong : Cal P w K mg base (L2.CX P w) (2 * n) (He.fAd K ("_law_wrong", none)) ["_law_number", "_law_many"] [] (spR PR K n "_law_wrong")
  l_alike : Cal P w K mg base (L2.CX P w) (2 * n) (He.fAd K ("_law_alike", none)) ["_law_found", "_law_row"] [] (spR PR K n "_law_alike")
  l_rows : Cal P w K mg base (L2.CX P w) (2 * n) (He.fAd K ("_law_rows", none)) ["_law_found", "_law_rows_here"] [] (spR PR K n "_law_rows")
  l_other : Cal P w K mg base (L2.CX P w) (2 * n) (He.fAd K ("_law_other", none)) ["_law_e"] [] (spR PR K n "_law_other")
  l_refused : Cal P w K mg base (L2.CX P w) (2 * n) (He.fAd K ("_law_refused", none)) ["_law_signs"] [] (spR PR K n "_law_refused")
  l_refused_by_any : Cal P w K mg base (L2.CX P w) (2 * n) (He.fAd K ("_law_refused_by_any", none)) ["_law_signs"] [] (spR PR K n "_law_refused_by_any")
  law : Cal P w K mg base (L2.CX P w) (2 * n) (He.fAd K ("law", none)) ["_law_script"] [] (spR PR K n "law")
theorem cal_numbered {P : Program} {w : World} {K : PySem.W.Frag} {mg : Str → Option Value} {base : Heap} (T : HF K mg) {k : Nat} {sp : Sp} (h : ∀ fd, FN_numbered K fd → FnOk P w K mg base (L2.CX P w) k (He.fAd K ("numbered", none)) fd ["word"] sp) : Cal P w K mg base (L2.CX P w) (k) (He.fAd K ("numbered", none)) ["word"] [] (sp) := by
  obtain ⟨fd, F⟩ := T.d_numbered
  exact cal_of F (h fd F) (fun _ _ _ _ _ _ us hl => match us, hl with | [_], _ => rfl)
theorem cal_number_of {P : Program} {w : World} {K : PySem.W.Frag} {mg : Str → Option Value} {base : Heap} (T : HF K mg) {k : Nat} {sp : Sp} (h : ∀ fd, FN_number_of K fd → FnOk P w K mg base (L2.CX P w) k (He.fAd K ("number_of", none)) fd ["text"] sp) : Cal P w K mg base (L2.CX P w) (k) (He.fAd K ("number_of", none)) ["text"] [] (sp) := by
  obtain ⟨fd, F⟩ := T.d_number_of
  exact cal_of F (h fd F) (fun _ _ _ _ _ _ us hl => match us, hl with | [_], _ => rfl)
theorem cal_fits {P : Program} {w : World} {K : PySem.W.Frag} {mg : Str → Option Value} {base : Heap} (T : HF K mg) {k : Nat} {sp : Sp} (h : ∀ fd, FN_fits K fd → FnOk P w K mg base (L2.CX P w) k (He.fAd K ("fits", none)) fd ["word", "number", "many"] sp) : Cal P w K mg base (L2.CX P w) (k) (He.fAd K ("fits", none)) ["word", "number", "many"] [] (sp) := by
  obtain ⟨fd, F⟩ := T.d_fits
  exact cal_of F (h fd F) (fun _ _ _ _ _ _ us hl => match us, hl with | [_, _, _], _ => rfl)
theorem cal_right_row {P : Program} {w : World} {K : PySem.W.Frag} {mg : Str → Option Value} {base : Heap} (T : HF K mg) {k : Nat} {sp : Sp} (h : ∀ fd, FN_right_row K fd → FnOk P w K mg base (L2.CX P w) k (He.fAd K ("right_row", none)) fd ["row", "many"] sp) : Cal P w K mg base (L2.CX P w) (k) (He.fAd K ("right_row", none)) ["row", "many"] [] (sp) := by
  obtain ⟨fd, F⟩ := T.d_right_row
  exact cal_of F (h fd F) (fun _ _ _ _ _ _ us hl => match us, hl with | [_, _], _ => rfl)
theorem cal_right {P : Program} {w : World} {K : PySem.W.Frag} {mg : Str → Option Value} {base : Heap} (T : HF K mg) {k : Nat} {sp : Sp} (h : ∀ fd, FN_right K fd → FnOk P w K mg base (L2.CX P w) k (He.fAd K ("right", none)) fd ["rows"] sp) : Cal P w K mg base (L2.CX P w) (k) (He.fAd K ("right", none)) ["rows"] [] (sp) := by
  obtain ⟨fd, F⟩ := T.d_right
  exact cal_of F (h fd F) (fun _ _ _ _ _ _ us hl => match us, hl with | [_], _ => rfl)
theorem cal_read_row {P : Program} {w : World} {K : PySem.W.Frag} {mg : Str → Option Value} {base : Heap} (T : HF K mg) {k : Nat} {sp : Sp} (h : ∀ fd, FN_read_row K fd → FnOk P w K mg base (L2.CX P w) k (He.fAd K ("read_row", none)) fd ["part"] sp) : Cal P w K mg base (L2.CX P w) (k) (He.fAd K ("read_row", none)) ["part"] [] (sp) := by
  obtain ⟨fd, F⟩ := T.d_read_row
  exact cal_of F (h fd F) (fun _ _ _ _ _ _ us hl => match us, hl with | [_], _ => rfl)
theorem cal_read {P : Program} {w : World} {K : PySem.W.Frag} {mg : Str → Option Value} {base : Heap} (T : HF K mg) {k : Nat} {sp : Sp} (h : ∀ fd, FN_read K fd → FnOk P w K mg base (L2.CX P w) k (He.fAd K ("read", none)) fd ["text"] sp) : Cal P w K mg base (L2.CX P w) (k) (He.fAd K ("read", none)) ["text"] [] (sp) := by
  obtain ⟨fd, F⟩ := T.d_read
  exact cal_of F (h fd F) (fun _ _ _ _ _ _ us hl => match us, hl with | [_], _ => rfl)
theorem cal_l_cell_at {P : Program} {w : World} {K : PySem.W.Frag} {mg : Str → Option Value} {base : Heap} (T : HF K mg) {k : Nat} {sp : Sp} (h : ∀ fd, FN_l_cell_at K fd → FnOk P w K mg base (L2.CX P w) k (He.fAd K ("_law_cell_at", none)) fd ["_law_script", "_law_k"] sp) : Cal P w K mg base (L2.CX P w) (k) (He.fAd K ("_law_cell_at", none)) ["_law_script", "_law_k"] [] (sp) := by
  obtain ⟨fd, F⟩ := T.d_l_cell_at
  exact cal_of F (h fd F) (fun _ _ _ _ _ _ us hl => match us, hl with | [_, _], _ => rfl)
theorem cal_l_words {P : Program} {w : World} {K : PySem.W.Frag} {mg : Str → Option Value} {base : Heap} (T : HF K mg) {k : Nat} {sp : Sp} (h : ∀ fd, FN_l_words K fd → FnOk P w K mg base (L2.CX P w) k (He.fAd K ("_law_words", none)) fd [] sp) : Cal P w K mg base (L2.CX P w) (k) (He.fAd K ("_law_words", none)) [] [] (sp) := by
  obtain ⟨fd, F⟩ := T.d_l_words
  exact cal_of F (h fd F) (fun _ _ _ _ _ _ us hl => match us, hl with | [], _ => rfl)
theorem cal_l_row_by {P : Program} {w : World} {K : PySem.W.Frag} {mg : Str → Option Value} {base : Heap} (T : HF K mg) {k : Nat} {sp : Sp} (h : ∀ fd, FN_l_row_by K fd → FnOk P w K mg base (L2.CX P w) k (He.fAd K ("_law_row_by", none)) fd ["_law_cell", "_law_many"] sp) : Cal P w K mg base (L2.CX P w) (k) (He.fAd K ("_law_row_by", none)) ["_law_cell", "_law_many"] [] (sp) := by
  obtain ⟨fd, F⟩ := T.d_l_row_by
  exact cal_of F (h fd F) (fun _ _ _ _ _ _ us hl => match us, hl with | [_, _], _ => rfl)
theorem cal_l_part {P : Program} {w : World} {K : PySem.W.Frag} {mg : Str → Option Value} {base : Heap} (T : HF K mg) {k : Nat} {sp : Sp} (h : ∀ fd, FN_l_part K fd → FnOk P w K mg base (L2.CX P w) k (He.fAd K ("_law_part", none)) fd ["_law_row"] sp) : Cal P w K mg base (L2.CX P w) (k) (He.fAd K ("_law_part", none)) ["_law_row"] [] (sp) := by
  obtain ⟨fd, F⟩ := T.d_l_part
  exact cal_of F (h fd F) (fun _ _ _ _ _ _ us hl => match us, hl with | [_], _ => rfl)
theorem cal_l_wrong {P : Program} {w : World} {K : PySem.W.Frag} {mg : Str → Option Value} {base : Heap} (T : HF K mg) {k : Nat} {sp : Sp} (h : ∀ fd, FN_l_wrong K fd → FnOk P w K mg base (L2.CX P w) k (He.fAd K ("_law_wrong", none)) fd ["_law_number", "_law_many"] sp) : Cal P w K mg base (L2.CX P w) (k) (He.fAd K ("_law_wrong", none)) ["_law_number", "_law_many"] [] (sp) := by
  obtain ⟨fd, F⟩ := T.d_l_wrong
  exact cal_of F (h fd F) (fun _ _ _ _ _ _ us hl => match us, hl with | [_, _], _ => rfl)
theorem cal_l_alike {P : Program} {w : World} {K : PySem.W.Frag} {mg : Str → Option Value} {base : Heap} (T : HF K mg) {k : Nat} {sp : Sp} (h : ∀ fd, FN_l_alike K fd → FnOk P w K mg base (L2.CX P w) k (He.fAd K ("_law_alike", none)) fd ["_law_found", "_law_row"] sp) : Cal P w K mg base (L2.CX P w) (k) (He.fAd K ("_law_alike", none)) ["_law_found", "_law_row"] [] (sp) := by
  obtain ⟨fd, F⟩ := T.d_l_alike
  exact cal_of F (h fd F) (fun _ _ _ _ _ _ us hl => match us, hl with | [_, _], _ => rfl)
theorem cal_l_rows {P : Program} {w : World} {K : PySem.W.Frag} {mg : Str → Option Value} {base : Heap} (T : HF K mg) {k : Nat} {sp : Sp} (h : ∀ fd, FN_l_rows K fd → FnOk P w K mg base (L2.CX P w) k (He.fAd K ("_law_rows", none)) fd ["_law_found", "_law_rows_here"] sp) : Cal P w K mg base (L2.CX P w) (k) (He.fAd K ("_law_rows", none)) ["_law_found", "_law_rows_here"] [] (sp) := by
  obtain ⟨fd, F⟩ := T.d_l_rows
  exact cal_of F (h fd F) (fun _ _ _ _ _ _ us hl => match us, hl with | [_, _], _ => rfl)
theorem cal_l_other {P : Program} {w : World} {K : PySem.W.Frag} {mg : Str → Option Value} {base : Heap} (T : HF K mg) {k : Nat} {sp : Sp} (h : ∀ fd, FN_l_other K fd → FnOk P w K mg base (L2.CX P w) k (He.fAd K ("_law_other", none)) fd ["_law_e"] sp) : Cal P w K mg base (L2.CX P w) (k) (He.fAd K ("_law_other", none)) ["_law_e"] [] (sp) := by
  obtain ⟨fd, F⟩ := T.d_l_other
  exact cal_of F (h fd F) (fun _ _ _ _ _ _ us hl => match us, hl with | [_], _ => rfl)
theorem cal_l_refused {P : Program} {w : World} {K : PySem.W.Frag} {mg : Str → Option Value} {base : Heap} (T : HF K mg) {k : Nat} {sp : Sp} (h : ∀ fd, FN_l_refused K fd → FnOk P w K mg base (L2.CX P w) k (He.fAd K ("_law_refused", none)) fd ["_law_signs"] sp) : Cal P w K mg base (L2.CX P w) (k) (He.fAd K ("_law_refused", none)) ["_law_signs"] [] (sp) := by
  obtain ⟨fd, F⟩ := T.d_l_refused
  exact cal_of F (h fd F) (fun _ _ _ _ _ _ us hl => match us, hl with | [_], _ => rfl)
theorem cal_l_refused_by_any {P : Program} {w : World} {K : PySem.W.Frag} {mg : Str → Option Value} {base : Heap} (T : HF K mg) {k : Nat} {sp : Sp} (h : ∀ fd, FN_l_refused_by_any K fd → FnOk P w K mg base (L2.CX P w) k (He.fAd K ("_law_refused_by_any", none)) fd ["_law_signs"] sp) : Cal P w K mg base (L2.CX P w) (k) (He.fAd K ("_law_refused_by_any", none)) ["_law_signs"] [] (sp) := by
  obtain ⟨fd, F⟩ := T.d_l_refused_by_any
  exact cal_of F (h fd F) (fun _ _ _ _ _ _ us hl => match us, hl with | [_], _ => rfl)
theorem cal_law {P : Program} {w : World} {K : PySem.W.Frag} {mg : Str → Option Value} {base : Heap} (T : HF K mg) {k : Nat} {sp : Sp} (h : ∀ fd, FN_law K fd → FnOk P w K mg base (L2.CX P w) k (He.fAd K ("law", none)) fd ["_law_script"] sp) : Cal P w K mg base (L2.CX P w) (k) (He.fAd K ("law", none)) ["_law_script"] [] (sp) := by
  obtain ⟨fd, F⟩ := T.d_law
  exact cal_of F (h fd F) (fun _ _ _ _ _ _ us hl => match us, hl with | [_], _ => rfl)
theorem ok_numbered {P : Program} {w : World} {K : PySem.W.Frag} {mg : Str → Option Value} {base : Heap} {n : Nat} (T : HF K mg) (A : AL P w K mg base n) {fd : FuncData} (F : FN_numbered K fd) : FnOk P w K mg base (L2.CX P w) (2 * (n + 1)) (He.fAd K ("numbered", none)) fd ["word"] (spR PR K (n + 1) "numbered") :=
  F.ok (k := 2 * n + 1) sc_numbered (fun _ _ _ _ h => spR_len fn_numbered h) fun cdv A0 outer s H vs Q E hr1 h => by
    have hr : Room (2 * n) (A0.deeper (envOfC "numbered" (defScope st_numbered) s.heap.objs.size (He.fAd K ("numbered", none)) cdv)) := hr1.mono (Nat.le_succ _)
    have hu := hr.units
    have nd := sc_numbered.nd
    have zo : PassesOwn (model P w) (cxOf (L2.CX P w) P w K mg base ["word"] "numbered" (defScope st_numbered) (He.fAd K ("numbered", none)) cdv A0 outer s H E).A (cxOf (L2.CX P w) P w K mg base ["word"] "numbered" (defScope st_numbered) (He.fAd K ("numbered", none)) cdv A0 outer s H E).env (cxOf (L2.CX P w) P w K mg base ["word"] "numbered" (defScope st_numbered) (He.fAd K ("numbered", none)) cdv A0 outer s H E).xe := passes_of rfl
    have zt : Takes (cxOf (L2.CX P w) P w K mg base ["word"] "numbered" (defScope st_numbered) (He.fAd K ("numbered", none)) cdv A0 outer s H E) (fun cls d _ H => E cls d H) := takes_of rfl rfl rfl rfl
    exact ⟨rdS (rc PR K (gv K) n fun cls d _ H => E cls d H) F_numbered.body, (pss_one (ps_ret (pe_cmpR (z_in hu) (pv 0) (pe_tup (pa_cons (pe_str) (pa_cons (pe_str) (pa_cons (pe_str) (pa_cons (pe_str) (pa_cons (pe_str) (pa_nil))))))) (by rfl)))), body_ok (facts T) fn_numbered rfl h⟩
theorem ok_number_of {P : Program} {w : World} {K : PySem.W.Frag} {mg : Str → Option Value} {base : Heap} {n : Nat} (T : HF K mg) (A : AL P w K mg base n) {fd : FuncData} (F : FN_number_of K fd) : FnOk P w K mg base (L2.CX P w) (2 * (n + 1)) (He.fAd K ("number_of", none)) fd ["text"] (spR PR K (n + 1) "number_of") :=
  F.ok (k := 2 * n + 1) sc_number_of (fun _ _ _ _ h => spR_len fn_number_of h) fun cdv A0 outer s H vs Q E hr1 h => by
    have hr : Room (2 * n) (A0.deeper (envOfC "number_of" (defScope st_number_of) s.heap.objs.size (He.fAd K ("number_of", none)) cdv)) := hr1.mono (Nat.le_succ _)
    have hu := hr.units
    have nd := sc_number_of.nd
    have zo : PassesOwn (model P w) (cxOf (L2.CX P w) P w K mg base ["text", "sign", "number"] "number_of" (defScope st_number_of) (He.fAd K ("number_of", none)) cdv A0 outer s H E).A (cxOf (L2.CX P w) P w K mg base ["text", "sign", "number"] "number_of" (defScope st_number_of) (He.fAd K ("number_of", none)) cdv A0 outer s H E).env (cxOf (L2.CX P w) P w K mg base ["text", "sign", "number"] "number_of" (defScope st_number_of) (He.fAd K ("number_of", none)) cdv A0 outer s H E).xe := passes_of rfl
    have zt : Takes (cxOf (L2.CX P w) P w K mg base ["text", "sign", "number"] "number_of" (defScope st_number_of) (He.fAd K ("number_of", none)) cdv A0 outer s H E) (fun cls d _ H => E cls d H) := takes_of rfl rfl rfl rfl
    exact ⟨rdS (rc PR K (gv K) n fun cls d _ H => E cls d H) F_number_of.body, (pss_cons (ps_if (PW.pt (pw_or (pt_cmpR (z_lt hu) (zb_len rfl T.b_len (pa_cons (pv 0) (pa_nil))) (pe_int) (nomark _)) (pw_or1 (pt_cmpR (z_gt hu) (zb_len rfl T.b_len (pa_cons (pv 0) (pa_nil))) (pe_int) (nomark _))))) (pss_one (ps_ret (pe_non))) (pss_nil)) (pss_cons (ps_for zo rfl (zi_seq (pv 0)) (znm 1 nd) (pss_one (ps_if (pt_cmpR (z_nin hu) (pv 1) (zglo T.k_FIGURES) (by rfl)) (pss_one (ps_ret (pe_non))) (pss_nil)))) (pss_cons (ps_if (PW.pt (pw_and (pt_cmpR (z_eq hu) (pe_ix ix_seq (pv 0) (pe_int) (fun _ _ => rfl)) (pe_str) (nomark _)) (pw_and1 (pt_cmpR (z_gt hu) (zb_len rfl T.b_len (pa_cons (pv 0) (pa_nil))) (pe_int) (nomark _))))) (pss_one (ps_ret (pe_non))) (pss_nil)) (pss_cons (zset 2 nd (zb_int rfl T.b_int (pa_cons (pv 0) (pa_nil)))) (pss_cons (ps_if (pt_cmpR (z_lt hu) (pv 2) (zglo T.k_WIDE) (nomark _)) (pss_one (ps_ret (pv 2))) (pss_nil)) (pss_one (ps_ret (pe_non)))))))), body_ok (facts T) fn_number_of rfl h⟩
theorem ok_fits {P : Program} {w : World} {K : PySem.W.Frag} {mg : Str → Option Value} {base : Heap} {n : Nat} (T : HF K mg) (A : AL P w K mg base n) {fd : FuncData} (F : FN_fits K fd) : FnOk P w K mg base (L2.CX P w) (2 * (n + 1)) (He.fAd K ("fits", none)) fd ["word", "number", "many"] (spR PR K (n + 1) "fits") :=
  F.ok (k := 2 * n + 1) sc_fits (fun _ _ _ _ h => spR_len fn_fits h) fun cdv A0 outer s H vs Q E hr1 h => by
    have hr : Room (2 * n) (A0.deeper (envOfC "fits" (defScope st_fits) s.heap.objs.size (He.fAd K ("fits", none)) cdv)) := hr1.mono (Nat.le_succ _)
    have hu := hr.units
    have nd := sc_fits.nd
    have zo : PassesOwn (model P w) (cxOf (L2.CX P w) P w K mg base ["word", "number", "many"] "fits" (defScope st_fits) (He.fAd K ("fits", none)) cdv A0 outer s H E).A (cxOf (L2.CX P w) P w K mg base ["word", "number", "many"] "fits" (defScope st_fits) (He.fAd K ("fits", none)) cdv A0 outer s H E).env (cxOf (L2.CX P w) P w K mg base ["word", "number", "many"] "fits" (defScope st_fits) (He.fAd K ("fits", none)) cdv A0 outer s H E).xe := passes_of rfl
    have zt : Takes (cxOf (L2.CX P w) P w K mg base ["word", "number", "many"] "fits" (defScope st_fits) (He.fAd K ("fits", none)) cdv A0 outer s H E) (fun cls d _ H => E cls d H) := takes_of rfl rfl rfl rfl
    exact ⟨rdS (rc PR K (gv K) n fun cls d _ H => E cls d H) F_fits.body, (pss_cons (ps_if (pt_cmpR (z_eq hu) (pv 0) (pe_str) (nomark _)) (pss_one (ps_ret (pe_chain (z_le hu) (z_lt hu) (pe_int) (pv 1) (zglo T.k_WIDE)))) (pss_nil)) (pss_cons (ps_if (pt_cmpR (z_eq hu) (pv 0) (pe_str) (nomark _)) (pss_one (ps_ret (pe_chain (z_le hu) (z_le hu) (pe_int) (pv 1) (pe_int)))) (pss_nil)) (pss_cons (ps_if (pt_cmpR (z_eq hu) (pv 0) (pe_str) (nomark _)) (pss_one (ps_ret (pe_chain (z_le hu) (z_le hu) (pe_int) (pv 1) (pe_int)))) (pss_nil)) (pss_one (ps_ret (pe_chain (z_le hu) (z_le hu) (pe_int) (pv 1) (pv 2))))))), body_ok (facts T) fn_fits rfl h⟩
theorem ok_right_row {P : Program} {w : World} {K : PySem.W.Frag} {mg : Str → Option Value} {base : Heap} {n : Nat} (T : HF K mg) (A : AL P w K mg base n) {fd : FuncData} (F : FN_right_row K fd) : FnOk P w K mg base (L2.CX P w) (2 * (n + 1)) (He.fAd K ("right_row", none)) fd ["row", "many"] (spR PR K (n + 1) "right_row") :=
  F.ok (k := 2 * n + 1) sc_right_row (fun _ _ _ _ h => spR_len fn_right_row h) fun cdv A0 outer s H vs Q E hr1 h => by
    have hr : Room (2 * n) (A0.deeper (envOfC "right_row" (defScope st_right_row) s.heap.objs.size (He.fAd K ("right_row", none)) cdv)) := hr1.mono (Nat.le_succ _)
    have hu := hr.units
    have nd := sc_right_row.nd
    have zo : PassesOwn (model P w) (cxOf (L2.CX P w) P w K mg base ["row", "many", "word"] "right_row" (defScope st_right_row) (He.fAd K ("right_row", none)) cdv A0 outer s H E).A (cxOf (L2.CX P w) P w K mg base ["row", "many", "word"] "right_row" (defScope st_right_row) (He.fAd K ("right_row", none)) cdv A0 outer s H E).env (cxOf (L2.CX P w) P w K mg base ["row", "many", "word"] "right_row" (defScope st_right_row) (He.fAd K ("right_row", none)) cdv A0 outer s H E).xe := passes_of rfl
    have zt : Takes (cxOf (L2.CX P w) P w K mg base ["row", "many", "word"] "right_row" (defScope st_right_row) (He.fAd K ("right_row", none)) cdv A0 outer s H E) (fun cls d _ H => E cls d H) := takes_of rfl rfl rfl rfl
    exact ⟨rdS (rc PR K (gv K) n fun cls d _ H => E cls d H) F_right_row.body, (pss_cons (zset 2 nd (pe_ix ix_seq (pv 0) (pe_int) (fun _ _ => rfl))) (pss_cons (ps_if (pt_cmpR (z_nin hu) (pv 2) (zglo T.k_WORDS) (by rfl)) (pss_one (ps_ret (pe_bl))) (pss_nil)) (pss_cons (ps_if (pt_not (ztru (zcall (A.numbered) hr rfl T.g_numbered zpD (pa_cons (pv 2) (pa_nil))))) (pss_one (ps_ret (pe_cmpR (z_eq hu) (zb_len rfl T.b_len (pa_cons (pv 0) (pa_nil))) (pe_int) (nomark _)))) (pss_nil)) (pss_cons (ps_if (pt_cmpR (z_ne hu) (zb_len rfl T.b_len (pa_cons (pv 0) (pa_nil))) (pe_int) (nomark _)) (pss_one (ps_ret (pe_bl))) (pss_nil)) (pss_one (ps_ret (zcall (A.fits) hr rfl T.g_fits zpD (pa_cons (pv 2) (pa_cons (pe_ix ix_seq (pv 0) (pe_int) (fun _ _ => rfl)) (pa_cons (pv 1) (pa_nil))))))))))), body_ok (facts T) fn_right_row rfl h⟩
theorem ok_right {P : Program} {w : World} {K : PySem.W.Frag} {mg : Str → Option Value} {base : Heap} {n : Nat} (T : HF K mg) (A : AL P w K mg base n) {fd : FuncData} (F : FN_right K fd) : FnOk P w K mg base (L2.CX P w) (2 * (n + 1)) (He.fAd K ("right", none)) fd ["rows"] (spR PR K (n + 1) "right") :=
  F.ok (k := 2 * n + 1) sc_right (fun _ _ _ _ h => spR_len fn_right h) fun cdv A0 outer s H vs Q E hr1 h => by
    have hr : Room (2 * n) (A0.deeper (envOfC "right" (defScope st_right) s.heap.objs.size (He.fAd K ("right", none)) cdv)) := hr1.mono (Nat.le_succ _)
    have hu := hr.units
    have nd := sc_right.nd
    have zo : PassesOwn (model P w) (cxOf (L2.CX P w) P w K mg base ["rows", "row"] "right" (defScope st_right) (He.fAd K ("right", none)) cdv A0 outer s H E).A (cxOf (L2.CX P w) P w K mg base ["rows", "row"] "right" (defScope st_right) (He.fAd K ("right", none)) cdv A0 outer s H E).env (cxOf (L2.CX P w) P w K mg base ["rows", "row"] "right" (defScope st_right) (He.fAd K ("right", none)) cdv A0 outer s H E).xe := passes_of rfl
    have zt : Takes (cxOf (L2.CX P w) P w K mg base ["rows", "row"] "right" (defScope st_right) (He.fAd K ("right", none)) cdv A0 outer s H E) (fun cls d _ H => E cls d H) := takes_of rfl rfl rfl rfl
    exact ⟨rdS (rc PR K (gv K) n fun cls d _ H => E cls d H) F_right.body, (pss_cons (ps_if (pt_cmpR (z_gt hu) (zb_len rfl T.b_len (pa_cons (pv 0) (pa_nil))) (zglo T.k_MOST) (nomark _)) (pss_one (ps_ret (pe_bl))) (pss_nil)) (pss_cons (ps_for zo rfl (zi_seq (pv 0)) (znm 1 nd) (pss_one (ps_if (pt_not (ztru (zcall (A.right_row) hr rfl T.g_right_row zpD (pa_cons (pv 1) (pa_cons (zb_len rfl T.b_len (pa_cons (pv 0) (pa_nil))) (pa_nil)))))) (pss_one (ps_ret (pe_bl))) (pss_nil)))) (pss_one (ps_ret (pe_bl))))), body_ok (facts T) fn_right rfl h⟩
theorem ok_read_row {P : Program} {w : World} {K : PySem.W.Frag} {mg : Str → Option Value} {base : Heap} {n : Nat} (T : HF K mg) (A : AL P w K mg base n) {fd : FuncData} (F : FN_read_row K fd) : FnOk P w K mg base (L2.CX P w) (2 * (n + 1)) (He.fAd K ("read_row", none)) fd ["part"] (spR PR K (n + 1) "read_row") :=
  F.ok (k := 2 * n + 1) sc_read_row (fun _ _ _ _ h => spR_len fn_read_row h) fun cdv A0 outer s H vs Q E hr1 h => by
    have hr : Room (2 * n) (A0.deeper (envOfC "read_row" (defScope st_read_row) s.heap.objs.size (He.fAd K ("read_row", none)) cdv)) := hr1.mono (Nat.le_succ _)
    have hu := hr.units
    have nd := sc_read_row.nd
    have zo : PassesOwn (model P w) (cxOf (L2.CX P w) P w K mg base ["part", "pieces", "number"] "read_row" (defScope st_read_row) (He.fAd K ("read_row", none)) cdv A0 outer s H E).A (cxOf (L2.CX P w) P w K mg base ["part", "pieces", "number"] "read_row" (defScope st_read_row) (He.fAd K ("read_row", none)) cdv A0 outer s H E).env (cxOf (L2.CX P w) P w K mg base ["part", "pieces", "number"] "read_row" (defScope st_read_row) (He.fAd K ("read_row", none)) cdv A0 outer s H E).xe := passes_of rfl
    have zt : Takes (cxOf (L2.CX P w) P w K mg base ["part", "pieces", "number"] "read_row" (defScope st_read_row) (He.fAd K ("read_row", none)) cdv A0 outer s H E) (fun cls d _ H => E cls d H) := takes_of rfl rfl rfl rfl
    exact ⟨rdS (rc PR K (gv K) n fun cls d _ H => E cls d H) F_read_row.body, (pss_cons (zset 1 nd (zm_partition (pv 0) (pe_str))) (pss_cons (ps_if (pt_not (ztru (zcall (A.numbered) hr rfl T.g_numbered zpD (pa_cons (pe_ix ix_seq (pv 1) (pe_int) (fun _ _ => rfl)) (pa_nil))))) (pss_one (ps_ret (pe_tup (pa_cons (pv 0) (pa_nil))))) (pss_nil)) (pss_cons (zset 2 nd (zcall (A.number_of) hr rfl T.g_number_of zpD (pa_cons (pe_ix ix_seq (pv 1) (pe_int) (fun _ _ => rfl)) (pa_nil)))) (pss_cons (ps_if (pt_cmpR (z_isN hu) (pv 2) (pe_non) (nomark _)) (pss_one (ps_raise rfl zt (pmk_own PySem.F.excBase_ValueError (He.exc_ok T.x_NoCode).1 T.g_NoCode (He.exc_ok T.x_NoCode).2.1 (raises_own (He.exc_ok T.x_NoCode).2.2.1 (He.exc_ok T.x_NoCode).2.2.2) rfl))) (pss_nil)) (pss_one (ps_ret (pe_tup (pa_cons (pe_ix ix_seq (pv 1) (pe_int) (fun _ _ => rfl)) (pa_cons (pv 2) (pa_nil)))))))))), body_ok (facts T) fn_read_row rfl h⟩
theorem ok_read {P : Program} {w : World} {K : PySem.W.Frag} {mg : Str → Option Value} {base : Heap} {n : Nat} (T : HF K mg) (A : AL P w K mg base n) {fd : FuncData} (F : FN_read K fd) : FnOk P w K mg base (L2.CX P w) (2 * (n + 1)) (He.fAd K ("read", none)) fd ["text"] (spR PR K (n + 1) "read") :=
  F.ok (k := 2 * n + 1) sc_read (fun _ _ _ _ h => spR_len fn_read h) fun cdv A0 outer s H vs Q E hr1 h => by
    have hr : Room (2 * n) (A0.deeper (envOfC "read" (defScope st_read) s.heap.objs.size (He.fAd K ("read", none)) cdv)) := hr1.mono (Nat.le_succ _)
    have hu := hr.units
    have nd := sc_read.nd
    have zo : PassesOwn (model P w) (cxOf (L2.CX P w) P w K mg base ["text", "rows", "part"] "read" (defScope st_read) (He.fAd K ("read", none)) cdv A0 outer s H E).A (cxOf (L2.CX P w) P w K mg base ["text", "rows", "part"] "read" (defScope st_read) (He.fAd K ("read", none)) cdv A0 outer s H E).env (cxOf (L2.CX P w) P w K mg base ["text", "rows", "part"] "read" (defScope st_read) (He.fAd K ("read", none)) cdv A0 outer s H E).xe := passes_of rfl
    have zt : Takes (cxOf (L2.CX P w) P w K mg base ["text", "rows", "part"] "read" (defScope st_read) (He.fAd K ("read", none)) cdv A0 outer s H E) (fun cls d _ H => E cls d H) := takes_of rfl rfl rfl rfl
    exact ⟨rdS (rc PR K (gv K) n fun cls d _ H => E cls d H) F_read.body, (pss_cons (zset 1 nd (pe_lst (pa_nil))) (pss_cons (ps_if (pt_cmpR (z_ne hu) (pv 0) (pe_str) (nomark _)) (pss_one (ps_for zo rfl (zi_seq (zm_split (pv 0) (pe_str))) (znm 2 nd) (pss_one (ps_expr (zm_append (pv 1) (pa_cons (zcall (A.read_row) hr rfl T.g_read_row zpD (pa_cons (pv 2) (pa_nil))) (pa_nil))))))) (pss_nil)) (pss_cons (ps_if (pt_not (ztru (zcall (A.right) hr rfl T.g_right zpD (pa_cons (pv 1) (pa_nil))))) (pss_one (ps_raise rfl zt (pmk_own PySem.F.excBase_ValueError (He.exc_ok T.x_NoCode).1 T.g_NoCode (He.exc_ok T.x_NoCode).2.1 (raises_own (He.exc_ok T.x_NoCode).2.2.1 (He.exc_ok T.x_NoCode).2.2.2) rfl))) (pss_nil)) (pss_one (ps_ret (pv 1)))))), body_ok (facts T) fn_read rfl h⟩
theorem ok_l_cell_at {P : Program} {w : World} {K : PySem.W.Frag} {mg : Str → Option Value} {base : Heap} {n : Nat} (T : HF K mg) (A : AL P w K mg base n) {fd : FuncData} (F : FN_l_cell_at K fd) : FnOk P w K mg base (L2.CX P w) (2 * (n + 1)) (He.fAd K ("_law_cell_at", none)) fd ["_law_script", "_law_k"] (spR PR K (n + 1) "_law_cell_at") :=
  F.ok (k := 2 * n + 1) sc_l_cell_at (fun _ _ _ _ h => spR_len fn_l_cell_at h) fun cdv A0 outer s H vs Q E hr1 h => by
    have hr : Room (2 * n) (A0.deeper (envOfC "_law_cell_at" (defScope st_l_cell_at) s.heap.objs.size (He.fAd K ("_law_cell_at", none)) cdv)) := hr1.mono (Nat.le_succ _)
    have hu := hr.units
    have nd := sc_l_cell_at.nd
    have zo : PassesOwn (model P w) (cxOf (L2.CX P w) P w K mg base ["_law_script", "_law_k"] "_law_cell_at" (defScope st_l_cell_at) (He.fAd K ("_law_cell_at", none)) cdv A0 outer s H E).A (cxOf (L2.CX P w) P w K mg base ["_law_script", "_law_k"] "_law_cell_at" (defScope st_l_cell_at) (He.fAd K ("_law_cell_at", none)) cdv A0 outer s H E).env (cxOf (L2.CX P w) P w K mg base ["_law_script", "_law_k"] "_law_cell_at" (defScope st_l_cell_at) (He.fAd K ("_law_cell_at", none)) cdv A0 outer s H E).xe := passes_of rfl
    have zt : Takes (cxOf (L2.CX P w) P w K mg base ["_law_script", "_law_k"] "_law_cell_at" (defScope st_l_cell_at) (He.fAd K ("_law_cell_at", none)) cdv A0 outer s H E) (fun cls d _ H => E cls d H) := takes_of rfl rfl rfl rfl
    exact ⟨rdS (rc PR K (gv K) n fun cls d _ H => E cls d H) F_l_cell_at.body, (pss_cons (ps_if (pt_cmpR (z_lt hu) (pv 1) (zb_len rfl T.b_len (pa_cons (pv 0) (pa_nil))) (nomark _)) (pss_one (ps_ret (pe_ix ix_seq (pv 0) (pv 1) (fun _ _ => rfl)))) (pss_nil)) (pss_one (ps_ret (pe_int)))), body_ok (facts T) fn_l_cell_at rfl h⟩
theorem ok_l_words {P : Program} {w : World} {K : PySem.W.Frag} {mg : Str → Option Value} {base : Heap} {n : Nat} (T : HF K mg) (A : AL P w K mg base n) {fd : FuncData} (F : FN_l_words K fd) : FnOk P w K mg base (L2.CX P w) (2 * (n + 1)) (He.fAd K ("_law_words", none)) fd [] (spR PR K (n + 1) "_law_words") :=
  F.ok (k := 2 * n + 1) sc_l_words (fun _ _ _ _ h => spR_len fn_l_words h) fun cdv A0 outer s H vs Q E hr1 h => by
    have hr : Room (2 * n) (A0.deeper (envOfC "_law_words" (defScope st_l_words) s.heap.objs.size (He.fAd K ("_law_words", none)) cdv)) := hr1.mono (Nat.le_succ _)
    have hu := hr.units
    have nd := sc_l_words.nd
    have zo : PassesOwn (model P w) (cxOf (L2.CX P w) P w K mg base ["_law_early", "_law_middle"] "_law_words" (defScope st_l_words) (He.fAd K ("_law_words", none)) cdv A0 outer s H E).A (cxOf (L2.CX P w) P w K mg base ["_law_early", "_law_middle"] "_law_words" (defScope st_l_words) (He.fAd K ("_law_words", none)) cdv A0 outer s H E).env (cxOf (L2.CX P w) P w K mg base ["_law_early", "_law_middle"] "_law_words" (defScope st_l_words) (He.fAd K ("_law_words", none)) cdv A0 outer s H E).xe := passes_of rfl
    have zt : Takes (cxOf (L2.CX P w) P w K mg base ["_law_early", "_law_middle"] "_law_words" (defScope st_l_words) (He.fAd K ("_law_words", none)) cdv A0 outer s H E) (fun cls d _ H => E cls d H) := takes_of rfl rfl rfl rfl
    exact ⟨rdS (rc PR K (gv K) n fun cls d _ H => E cls d H) F_l_words.body, (pss_cons (zset 0 nd (pe_lst (pa_cons (pe_str) (pa_cons (pe_str) (pa_cons (pe_str) (pa_cons (pe_str) (pa_cons (pe_str) (pa_cons (pe_str) (pa_cons (pe_str) (pa_cons (pe_str) (pa_cons (pe_str) (pa_cons (pe_str) (pa_cons (pe_str) (pa_cons (pe_str) (pa_nil))))))))))))))) (pss_cons (zset 1 nd (pe_lst (pa_cons (pe_str) (pa_cons (pe_str) (pa_cons (pe_str) (pa_cons (pe_str) (pa_cons (pe_str) (pa_cons (pe_str) (pa_cons (pe_str) (pa_cons (pe_str) (pa_cons (pe_str) (pa_cons (pe_str) (pa_cons (pe_str) (pa_cons (pe_str) (pa_nil))))))))))))))) (pss_one (ps_ret (pe_op z_add (pe_op z_add (pv 0) (pv 1)) (pe_lst (pa_cons (pe_str) (pa_cons (pe_str) (pa_cons (pe_str) (pa_cons (pe_str) (pa_cons (pe_str) (pa_cons (pe_str) (pa_cons (pe_str) (pa_nil)))))))))))))), body_ok (facts T) fn_l_words rfl h⟩
theorem ok_l_row_by {P : Program} {w : World} {K : PySem.W.Frag} {mg : Str → Option Value} {base : Heap} {n : Nat} (T : HF K mg) (A : AL P w K mg base n) {fd : FuncData} (F : FN_l_row_by K fd) : FnOk P w K mg base (L2.CX P w) (2 * (n + 1)) (He.fAd K ("_law_row_by", none)) fd ["_law_cell", "_law_many"] (spR PR K (n + 1) "_law_row_by") :=
  F.ok (k := 2 * n + 1) sc_l_row_by (fun _ _ _ _ h => spR_len fn_l_row_by h) fun cdv A0 outer s H vs Q E hr1 h => by
    have hr : Room (2 * n) (A0.deeper (envOfC "_law_row_by" (defScope st_l_row_by) s.heap.objs.size (He.fAd K ("_law_row_by", none)) cdv)) := hr1.mono (Nat.le_succ _)
    have hu := hr.units
    have nd := sc_l_row_by.nd
    have zo : PassesOwn (model P w) (cxOf (L2.CX P w) P w K mg base ["_law_cell", "_law_many", "_law_word", "_law_part_here"] "_law_row_by" (defScope st_l_row_by) (He.fAd K ("_law_row_by", none)) cdv A0 outer s H E).A (cxOf (L2.CX P w) P w K mg base ["_law_cell", "_law_many", "_law_word", "_law_part_here"] "_law_row_by" (defScope st_l_row_by) (He.fAd K ("_law_row_by", none)) cdv A0 outer s H E).env (cxOf (L2.CX P w) P w K mg base ["_law_cell", "_law_many", "_law_word", "_law_part_here"] "_law_row_by" (defScope st_l_row_by) (He.fAd K ("_law_row_by", none)) cdv A0 outer s H E).xe := passes_of rfl
    have zt : Takes (cxOf (L2.CX P w) P w K mg base ["_law_cell", "_law_many", "_law_word", "_law_part_here"] "_law_row_by" (defScope st_l_row_by) (He.fAd K ("_law_row_by", none)) cdv A0 outer s H E) (fun cls d _ H => E cls d H) := takes_of rfl rfl rfl rfl
    exact ⟨rdS (rc PR K (gv K) n fun cls d _ H => E cls d H) F_l_row_by.body, (pss_cons (zset 2 nd (pe_ix ix_seq (zcall0 (A.l_words) hr rfl T.g__law_words zpD) (pe_op z_mod (pv 0) (pe_int)) (fun _ _ => rfl))) (pss_cons (zset 3 nd (pe_op z_fdiv (pv 0) (pe_int))) (pss_cons (ps_if (pt_cmpR (z_eq hu) (pv 2) (pe_str) (nomark _)) (pss_one (ps_ret (pe_tup (pa_cons (pv 2) (pa_cons (pe_op z_mod (pv 3) (pe_op z_pow (pe_int) (pe_int))) (pa_nil)))))) (pss_nil)) (pss_cons (ps_if (pt_cmpR (z_eq hu) (pv 2) (pe_str) (nomark _)) (pss_one (ps_ret (pe_tup (pa_cons (pv 2) (pa_cons (pe_op z_mod (pv 3) (pe_int)) (pa_nil)))))) (pss_nil)) (pss_cons (ps_if (pt_cmpR (z_eq hu) (pv 2) (pe_str) (nomark _)) (pss_one (ps_ret (pe_tup (pa_cons (pv 2) (pa_cons (pe_op z_add (pe_int) (pe_op z_mod (pv 3) (pe_int))) (pa_nil)))))) (pss_nil)) (pss_cons (ps_if (PW.pt (pw_or (pt_cmpR (z_eq hu) (pv 2) (pe_str) (nomark _)) (pw_or1 (pt_cmpR (z_eq hu) (pv 2) (pe_str) (nomark _))))) (pss_one (ps_ret (pe_tup (pa_cons (pv 2) (pa_cons (pe_op z_mod (pv 3) (pe_op z_add (pv 1) (pe_int))) (pa_nil)))))) (pss_nil)) (pss_one (ps_ret (pe_tup (pa_cons (pv 2) (pa_nil))))))))))), body_ok (facts T) fn_l_row_by rfl h⟩
theorem ok_l_part {P : Program} {w : World} {K : PySem.W.Frag} {mg : Str → Option Value} {base : Heap} {n : Nat} (T : HF K mg) (A : AL P w K mg base n) {fd : FuncData} (F : FN_l_part K fd) : FnOk P w K mg base (L2.CX P w) (2 * (n + 1)) (He.fAd K ("_law_part", none)) fd ["_law_row"] (spR PR K (n + 1) "_law_part") :=
  F.ok (k := 2 * n + 1) sc_l_part (fun _ _ _ _ h => spR_len fn_l_part h) fun cdv A0 outer s H vs Q E hr1 h => by
    have hr : Room (2 * n) (A0.deeper (envOfC "_law_part" (defScope st_l_part) s.heap.objs.size (He.fAd K ("_law_part", none)) cdv)) := hr1.mono (Nat.le_succ _)
    have hu := hr.units
    have nd := sc_l_part.nd
    have zo : PassesOwn (model P w) (cxOf (L2.CX P w) P w K mg base ["_law_row"] "_law_part" (defScope st_l_part) (He.fAd K ("_law_part", none)) cdv A0 outer s H E).A (cxOf (L2.CX P w) P w K mg base ["_law_row"] "_law_part" (defScope st_l_part) (He.fAd K ("_law_part", none)) cdv A0 outer s H E).env (cxOf (L2.CX P w) P w K mg base ["_law_row"] "_law_part" (defScope st_l_part) (He.fAd K ("_law_part", none)) cdv A0 outer s H E).xe := passes_of rfl
    have zt : Takes (cxOf (L2.CX P w) P w K mg base ["_law_row"] "_law_part" (defScope st_l_part) (He.fAd K ("_law_part", none)) cdv A0 outer s H E) (fun cls d _ H => E cls d H) := takes_of rfl rfl rfl rfl
    exact ⟨rdS (rc PR K (gv K) n fun cls d _ H => E cls d H) F_l_part.body, (pss_cons (ps_if (pt_cmpR (z_eq hu) (zb_len rfl T.b_len (pa_cons (pv 0) (pa_nil))) (pe_int) (nomark _)) (pss_one (ps_ret (pe_ix ix_seq (pv 0) (pe_int) (fun _ _ => rfl)))) (pss_nil)) (pss_one (ps_ret (pe_op z_add (pe_op z_add (pe_ix ix_seq (pv 0) (pe_int) (fun _ _ => rfl)) (pe_str)) (zb_str rfl T.b_str (pa_cons (pe_ix ix_seq (pv 0) (pe_int) (fun _ _ => rfl)) (pa_nil))))))), body_ok (facts T) fn_l_part rfl h⟩
theorem ok_l_wrong {P : Program} {w : World} {K : PySem.W.Frag} {mg : Str → Option Value} {base : Heap} {n : Nat} (T : HF K mg) (A : AL P w K mg base n) {fd : FuncData} (F : FN_l_wrong K fd) : FnOk P w K mg base (L2.CX P w) (2 * (n + 1)) (He.fAd K ("_law_wrong", none)) fd ["_law_number", "_law_many"] (spR PR K (n + 1) "_law_wrong") :=
  F.ok (k := 2 * n + 1) sc_l_wrong (fun _ _ _ _ h => spR_len fn_l_wrong h) fun cdv A0 outer s H vs Q E hr1 h => by
    have hr : Room (2 * n) (A0.deeper (envOfC "_law_wrong" (defScope st_l_wrong) s.heap.objs.size (He.fAd K ("_law_wrong", none)) cdv)) := hr1.mono (Nat.le_succ _)
    have hu := hr.units
    have nd := sc_l_wrong.nd
    have zo : PassesOwn (model P w) (cxOf (L2.CX P w) P w K mg base ["_law_number", "_law_many", "_law_some", "_law_word", "_law_odd"] "_law_wrong" (defScope st_l_wrong) (He.fAd K ("_law_wrong", none)) cdv A0 outer s H E).A (cxOf (L2.CX P w) P w K mg base ["_law_number", "_law_many", "_law_some", "_law_word", "_law_odd"] "_law_wrong" (defScope st_l_wrong) (He.fAd K ("_law_wrong", none)) cdv A0 outer s H E).env (cxOf (L2.CX P w) P w K mg base ["_law_number", "_law_many", "_law_some", "_law_word", "_law_odd"] "_law_wrong" (defScope st_l_wrong) (He.fAd K ("_law_wrong", none)) cdv A0 outer s H E).xe := passes_of rfl
    have zt : Takes (cxOf (L2.CX P w) P w K mg base ["_law_number", "_law_many", "_law_some", "_law_word", "_law_odd"] "_law_wrong" (defScope st_l_wrong) (He.fAd K ("_law_wrong", none)) cdv A0 outer s H E) (fun cls d _ H => E cls d H) := takes_of rfl rfl rfl rfl
    exact ⟨rdS (rc PR K (gv K) n fun cls d _ H => E cls d H) F_l_wrong.body, (pss_cons (zset 2 nd (pe_lst (pa_cons (pe_str) (pa_cons (pe_str) (pa_cons (pe_str) (pa_cons (pe_str) (pa_cons (pe_str) (pa_cons (pe_str) (pa_cons (pe_str) (pa_cons (pe_str) (pa_cons (pe_str) (pa_cons (pe_str) (pa_nil))))))))))))) (pss_cons (zset 2 nd (pe_op z_add (pv 2) (pe_lst (pa_cons (pe_str) (pa_cons (pe_str) (pa_cons (pe_str) (pa_nil))))))) (pss_cons (zset 2 nd (pe_op z_add (pv 2) (pe_lst (pa_cons (pe_str) (pa_cons (pe_str) (pa_cons (pe_str) (pa_cons (pe_str) (pa_cons (pe_str) (pa_cons (pe_str) (pa_cons (pe_str) (pa_cons (pe_str) (pa_cons (pe_str) (pa_cons (pe_str) (pa_nil)))))))))))))) (pss_cons (zset 2 nd (pe_op z_add (pv 2) (pe_lst (pa_cons (pe_str) (pa_cons (pe_str) (pa_cons (pe_op z_add (pe_str) (zb_str rfl T.b_str (pa_cons (pe_op z_add (pv 1) (pe_int)) (pa_nil)))) (pa_cons (pe_op z_add (pe_str) (zb_str rfl T.b_str (pa_cons (pe_op z_add (pv 1) (pe_int)) (pa_nil)))) (pa_cons (pe_str) (pa_cons (pe_str) (pa_nil)))))))))) (pss_cons (zset 2 nd (pe_op z_add (pv 2) (pe_lst (pa_cons (pe_str) (pa_cons (pe_str) (pa_cons (pe_str) (pa_cons (pe_str) (pa_cons (pe_str) (pa_cons (pe_str) (pa_cons (pe_str) (pa_cons (pe_str) (pa_cons (pe_str) (pa_nil))))))))))))) (pss_cons (zset 2 nd (pe_op z_add (pv 2) (pe_lst (pa_cons (pe_op z_add (pe_str) (zb_str rfl T.b_str (pa_cons (pe_op z_add (pe_op z_pow (pe_int) (pe_int)) (pv 0)) (pa_nil)))) (pa_cons (pe_op z_add (pe_str) (zb_str rfl T.b_str (pa_cons (pe_op z_add (pe_op z_add (pv 1) (pe_int)) (pv 0)) (pa_nil)))) (pa_cons (pe_ix ix_seq (pe_lst (pa_cons (pe_str) (pa_cons (pe_str) (pa_nil)))) (zb_int rfl T.b_int (pa_cons (pe_cmpR (z_lt hu) (pv 1) (pe_int) (nomark _)) (pa_nil))) (fun _ _ => rfl)) (pa_nil))))))) (pss_cons (zset 3 nd (pe_ix ix_seq (pe_lst (pa_cons (pe_str) (pa_cons (pe_str) (pa_cons (pe_str) (pa_cons (pe_str) (pa_cons (pe_str) (pa_nil))))))) (pe_op z_mod (pe_op z_fdiv (pv 0) (pe_int)) (pe_int)) (fun _ _ => rfl))) (pss_cons (zset 2 nd (pe_op z_add (pv 2) (pe_lc (own := [("_law_odd", 4)]) rfl nd (zi_seq (pe_lst (pa_cons (pe_str) (pa_cons (pe_str) (pa_cons (pe_str) (pa_cons (pe_str) (pa_cons (pe_str) (pa_cons (pe_str) (pa_cons (pe_str) (pa_nil)))))))))) (blkOk_by (own := [("_law_odd", 4)]) (by kernel_rfl)) (fun _ _ _ _ _ => znm 4 nd) (fun _ _ _ _ _ => pts_nil) (fun _ _ _ _ _ => pe_op z_add (pe_op z_add (pv 3) (pe_str)) (pv 4))))) (pss_one (ps_ret (pe_ix ix_seq (pv 2) (pe_op z_mod (pv 0) (zb_len rfl T.b_len (pa_cons (pv 2) (pa_nil)))) (fun _ _ => rfl)))))))))))), body_ok (facts T) fn_l_wrong rfl h⟩
theorem ok_l_alike {P : Program} {w : World} {K : PySem.W.Frag} {mg : Str → Option Value} {base : Heap} {n : Nat} (T : HF K mg) (A : AL P w K mg base n) {fd : FuncData} (F : FN_l_alike K fd) : FnOk P w K mg base (L2.CX P w) (2 * (n + 1)) (He.fAd K ("_law_alike", none)) fd ["_law_found", "_law_row"] (spR PR K (n + 1) "_law_alike") :=
  F.ok (k := 2 * n + 1) sc_l_alike (fun _ _ _ _ h => spR_len fn_l_alike h) fun cdv A0 outer s H vs Q E hr1 h => by
    have hr : Room (2 * n) (A0.deeper (envOfC "_law_alike" (defScope st_l_alike) s.heap.objs.size (He.fAd K ("_law_alike", none)) cdv)) := hr1.mono (Nat.le_succ _)
    have hu := hr.units
    have nd := sc_l_alike.nd
    have zo : PassesOwn (model P w) (cxOf (L2.CX P w) P w K mg base ["_law_found", "_law_row", "_law_k"] "_law_alike" (defScope st_l_alike) (He.fAd K ("_law_alike", none)) cdv A0 outer s H E).A (cxOf (L2.CX P w) P w K mg base ["_law_found", "_law_row", "_law_k"] "_law_alike" (defScope st_l_alike) (He.fAd K ("_law_alike", none)) cdv A0 outer s H E).env (cxOf (L2.CX P w) P w K mg base ["_law_found", "_law_row", "_law_k"] "_law_alike" (defScope st_l_alike) (He.fAd K ("_law_alike", none)) cdv A0 outer s H E).xe := passes_of rfl
    have zt : Takes (cxOf (L2.CX P w) P w K mg base ["_law_found", "_law_row", "_law_k"] "_law_alike" (defScope st_l_alike) (He.fAd K ("_law_alike", none)) cdv A0 outer s H E) (fun cls d _ H => E cls d H) := takes_of rfl rfl rfl rfl
    exact ⟨rdS (rc PR K (gv K) n fun cls d _ H => E cls d H) F_l_alike.body, (pss_cons (ps_if (PW.pt (pw_or (pt_not (ztru (zisi .tuple rfl rfl T.b_isinstance rfl T.b_tuple (pv 0)))) (pw_or1 (pt_cmpR (z_ne hu) (zb_len rfl T.b_len (pa_cons (pv 0) (pa_nil))) (zb_len rfl T.b_len (pa_cons (pv 1) (pa_nil))) (nomark _))))) (pss_one (ps_ret (pe_bl))) (pss_nil)) (pss_cons (ps_for zo rfl (zi_range1 rfl T.b_range (pa_cons (zb_len rfl T.b_len (pa_cons (pv 1) (pa_nil))) (pa_nil))) (znm 2 nd) (pss_one (ps_if (PW.pt (pw_or (ztru (zisi .bool rfl rfl T.b_isinstance rfl T.b_bool (pe_ix ix_seq (pv 0) (pv 2) (fun _ _ => rfl)))) (pw_or (pt_not (ztru (zisi2 .int .str rfl rfl rfl T.b_isinstance rfl T.b_int rfl T.b_str (pe_ix ix_seq (pv 0) (pv 2) (fun _ _ => rfl))))) (pw_or1 (pt_cmpR (z_ne hu) (pe_ix ix_seq (pv 0) (pv 2) (fun _ _ => rfl)) (pe_ix ix_seq (pv 1) (pv 2) (fun _ _ => rfl)) (nomark _)))))) (pss_one (ps_ret (pe_bl))) (pss_nil)))) (pss_one (ps_ret (pe_bl))))), body_ok (facts T) fn_l_alike rfl h⟩
theorem ok_l_rows {P : Program} {w : World} {K : PySem.W.Frag} {mg : Str → Option Value} {base : Heap} {n : Nat} (T : HF K mg) (A : AL P w K mg base n) {fd : FuncData} (F : FN_l_rows K fd) : FnOk P w K mg base (L2.CX P w) (2 * (n + 1)) (He.fAd K ("_law_rows", none)) fd ["_law_found", "_law_rows_here"] (spR PR K (n + 1) "_law_rows") :=
  F.ok (k := 2 * n + 1) sc_l_rows (fun _ _ _ _ h => spR_len fn_l_rows h) fun cdv A0 outer s H vs Q E hr1 h => by
    have hr : Room (2 * n) (A0.deeper (envOfC "_law_rows" (defScope st_l_rows) s.heap.objs.size (He.fAd K ("_law_rows", none)) cdv)) := hr1.mono (Nat.le_succ _)
    have hu := hr.units
    have nd := sc_l_rows.nd
    have zo : PassesOwn (model P w) (cxOf (L2.CX P w) P w K mg base ["_law_found", "_law_rows_here", "_law_k"] "_law_rows" (defScope st_l_rows) (He.fAd K ("_law_rows", none)) cdv A0 outer s H E).A (cxOf (L2.CX P w) P w K mg base ["_law_found", "_law_rows_here", "_law_k"] "_law_rows" (defScope st_l_rows) (He.fAd K ("_law_rows", none)) cdv A0 outer s H E).env (cxOf (L2.CX P w) P w K mg base ["_law_found", "_law_rows_here", "_law_k"] "_law_rows" (defScope st_l_rows) (He.fAd K ("_law_rows", none)) cdv A0 outer s H E).xe := passes_of rfl
    have zt : Takes (cxOf (L2.CX P w) P w K mg base ["_law_found", "_law_rows_here", "_law_k"] "_law_rows" (defScope st_l_rows) (He.fAd K ("_law_rows", none)) cdv A0 outer s H E) (fun cls d _ H => E cls d H) := takes_of rfl rfl rfl rfl
    exact ⟨rdS (rc PR K (gv K) n fun cls d _ H => E cls d H) F_l_rows.body, (pss_cons (ps_if (PW.pt (pw_or (pt_not (ztru (zisi .list rfl rfl T.b_isinstance rfl T.b_list (pv 0)))) (pw_or1 (pt_cmpR (z_ne hu) (zb_len rfl T.b_len (pa_cons (pv 0) (pa_nil))) (zb_len rfl T.b_len (pa_cons (pv 1) (pa_nil))) (nomark _))))) (pss_one (ps_ret (pe_bl))) (pss_nil)) (pss_cons (ps_for zo rfl (zi_range1 rfl T.b_range (pa_cons (zb_len rfl T.b_len (pa_cons (pv 1) (pa_nil))) (pa_nil))) (znm 2 nd) (pss_one (ps_if (pt_not (ztru (zcall (A.l_alike) hr rfl T.g__law_alike zpD (pa_cons (pe_ix ix_seq (pv 0) (pv 2) (fun _ _ => rfl)) (pa_cons (pe_ix ix_seq (pv 1) (pv 2) (fun _ _ => rfl)) (pa_nil)))))) (pss_one (ps_ret (pe_bl))) (pss_nil)))) (pss_one (ps_ret (pe_bl))))), body_ok (facts T) fn_l_rows rfl h⟩
theorem ok_l_other {P : Program} {w : World} {K : PySem.W.Frag} {mg : Str → Option Value} {base : Heap} {n : Nat} (T : HF K mg) (A : AL P w K mg base n) {fd : FuncData} (F : FN_l_other K fd) : FnOk P w K mg base (L2.CX P w) (2 * (n + 1)) (He.fAd K ("_law_other", none)) fd ["_law_e"] (spR PR K (n + 1) "_law_other") :=
  F.ok (k := 2 * n + 1) sc_l_other (fun _ _ _ _ h => spR_len fn_l_other h) fun cdv A0 outer s H vs Q E hr1 h => by
    have hr : Room (2 * n) (A0.deeper (envOfC "_law_other" (defScope st_l_other) s.heap.objs.size (He.fAd K ("_law_other", none)) cdv)) := hr1.mono (Nat.le_succ _)
    have hu := hr.units
    have nd := sc_l_other.nd
    have zo : PassesOwn (model P w) (cxOf (L2.CX P w) P w K mg base ["_law_e"] "_law_other" (defScope st_l_other) (He.fAd K ("_law_other", none)) cdv A0 outer s H E).A (cxOf (L2.CX P w) P w K mg base ["_law_e"] "_law_other" (defScope st_l_other) (He.fAd K ("_law_other", none)) cdv A0 outer s H E).env (cxOf (L2.CX P w) P w K mg base ["_law_e"] "_law_other" (defScope st_l_other) (He.fAd K ("_law_other", none)) cdv A0 outer s H E).xe := passes_of rfl
    have zt : Takes (cxOf (L2.CX P w) P w K mg base ["_law_e"] "_law_other" (defScope st_l_other) (He.fAd K ("_law_other", none)) cdv A0 outer s H E) (fun cls d _ H => E cls d H) := takes_of rfl rfl rfl rfl
    exact ⟨rdS (rc PR K (gv K) n fun cls d _ H => E cls d H) F_l_other.body, (pss_cons (ps_if (PW.pt (pw_or (ztru (ziso rfl T.b_isinstance rfl T.g_NoClash (pv 0))) (pw_or (ztru (ziso rfl T.b_isinstance rfl T.g_NoSlot (pv 0))) (pw_or (ztru (ziso rfl T.b_isinstance rfl T.g_Taken (pv 0))) (pw_or1 (ztru (ziso rfl T.b_isinstance rfl T.g_NoNumber (pv 0)))))))) (pss_one (ps_ret (pe_bl))) (pss_nil)) (pss_cons (ps_if (PW.pt (pw_or (ztru (ziso rfl T.b_isinstance rfl T.g_TooMuch (pv 0))) (pw_or (ztru (ziso rfl T.b_isinstance rfl T.g_NoAccount (pv 0))) (pw_or (ztru (ziso rfl T.b_isinstance rfl T.g_NoLimit (pv 0))) (pw_or1 (ztru (ziso rfl T.b_isinstance rfl T.g_PoorPurse (pv 0)))))))) (pss_one (ps_ret (pe_bl))) (pss_nil)) (pss_one (ps_ret (pe_or (ziso rfl T.b_isinstance rfl T.g_PoorCoin (pv 0)) (pe_or (ziso rfl T.b_isinstance rfl T.g_NoPaper (pv 0)) (pe_one (ziso rfl T.b_isinstance rfl T.g_NoRow (pv 0))))))))), body_ok (facts T) fn_l_other rfl h⟩
theorem ok_l_refused {P : Program} {w : World} {K : PySem.W.Frag} {mg : Str → Option Value} {base : Heap} {n : Nat} (T : HF K mg) (A : AL P w K mg base n) {fd : FuncData} (F : FN_l_refused K fd) : FnOk P w K mg base (L2.CX P w) (2 * (n + 1)) (He.fAd K ("_law_refused", none)) fd ["_law_signs"] (spR PR K (n + 1) "_law_refused") :=
  F.ok (k := 2 * n + 1) sc_l_refused (fun _ _ _ _ h => spR_len fn_l_refused h) fun cdv A0 outer s H vs Q E hr1 h => by
    have hr : Room (2 * n) (A0.deeper (envOfC "_law_refused" (defScope st_l_refused) s.heap.objs.size (He.fAd K ("_law_refused", none)) cdv)) := hr1.mono (Nat.le_succ _)
    have hu := hr.units
    have nd := sc_l_refused.nd
    have zo : PassesOwn (model P w) (cxOf (L2.CX P w) P w K mg base ["_law_signs", "_law_error", "_law_e"] "_law_refused" (defScope st_l_refused) (He.fAd K ("_law_refused", none)) cdv A0 outer s H E).A (cxOf (L2.CX P w) P w K mg base ["_law_signs", "_law_error", "_law_e"] "_law_refused" (defScope st_l_refused) (He.fAd K ("_law_refused", none)) cdv A0 outer s H E).env (cxOf (L2.CX P w) P w K mg base ["_law_signs", "_law_error", "_law_e"] "_law_refused" (defScope st_l_refused) (He.fAd K ("_law_refused", none)) cdv A0 outer s H E).xe := passes_of rfl
    have zt : Takes (cxOf (L2.CX P w) P w K mg base ["_law_signs", "_law_error", "_law_e"] "_law_refused" (defScope st_l_refused) (He.fAd K ("_law_refused", none)) cdv A0 outer s H E) (fun cls d _ H => E cls d H) := takes_of rfl rfl rfl rfl
    exact ⟨rdS (rc PR K (gv K) n fun cls d _ H => E cls d H) F_l_refused.body, (pss_cons (zset 1 nd (pe_non)) (pss_cons (zkeep (i := 2) (j := 1) rfl nd rfl T.g_NoCode (fun W pn xe zt zo => pss_one (ps_expr (zcall (A.read) hr rfl T.g_read (fun σ => passAt zt σ) (pa_cons (pv 0) (pa_nil))))) (fun a oe pn => pss_one (zset 1 nd (pv 2)))) (pss_cons (ps_if (PW.pt (pw_or (pt_cmpR (z_isN hu) (pv 1) (pe_non) (nomark _)) (pw_or (pt_not (ztru (ziso rfl T.b_isinstance rfl T.g_HouseError (pv 1)))) (pw_or1 (pt_not (ztru (zisoB rfl T.b_isinstance rfl T.b_ValueError (by decide +kernel) (by decide) (pv 1)))))))) (pss_one (ps_ret (pe_bl))) (pss_nil)) (pss_one (ps_ret (pe_not (zcall (A.l_other) hr rfl T.g__law_other zpD (pa_cons (pv 1) (pa_nil))))))))), body_ok (facts T) fn_l_refused rfl h⟩
theorem ok_l_refused_by_any {P : Program} {w : World} {K : PySem.W.Frag} {mg : Str → Option Value} {base : Heap} {n : Nat} (T : HF K mg) (A : AL P w K mg base n) {fd : FuncData} (F : FN_l_refused_by_any K fd) : FnOk P w K mg base (L2.CX P w) (2 * (n + 1)) (He.fAd K ("_law_refused_by_any", none)) fd ["_law_signs"] (spR PR K (n + 1) "_law_refused_by_any") :=
  F.ok (k := 2 * n + 1) sc_l_refused_by_any (fun _ _ _ _ h => spR_len fn_l_refused_by_any h) fun cdv A0 outer s H vs Q E hr1 h => by
    have hr : Room (2 * n) (A0.deeper (envOfC "_law_refused_by_any" (defScope st_l_refused_by_any) s.heap.objs.size (He.fAd K ("_law_refused_by_any", none)) cdv)) := hr1.mono (Nat.le_succ _)
    have hu := hr.units
    have nd := sc_l_refused_by_any.nd
    have zo : PassesOwn (model P w) (cxOf (L2.CX P w) P w K mg base ["_law_signs", "_law_refused_here"] "_law_refused_by_any" (defScope st_l_refused_by_any) (He.fAd K ("_law_refused_by_any", none)) cdv A0 outer s H E).A (cxOf (L2.CX P w) P w K mg base ["_law_signs", "_law_refused_here"] "_law_refused_by_any" (defScope st_l_refused_by_any) (He.fAd K ("_law_refused_by_any", none)) cdv A0 outer s H E).env (cxOf (L2.CX P w) P w K mg base ["_law_signs", "_law_refused_here"] "_law_refused_by_any" (defScope st_l_refused_by_any) (He.fAd K ("_law_refused_by_any", none)) cdv A0 outer s H E).xe := passes_of rfl
    have zt : Takes (cxOf (L2.CX P w) P w K mg base ["_law_signs", "_law_refused_here"] "_law_refused_by_any" (defScope st_l_refused_by_any) (He.fAd K ("_law_refused_by_any", none)) cdv A0 outer s H E) (fun cls d _ H => E cls d H) := takes_of rfl rfl rfl rfl
    exact ⟨rdS (rc PR K (gv K) n fun cls d _ H => E cls d H) F_l_refused_by_any.body, (pss_cons (zset 1 nd (pe_bl)) (pss_cons (ztry rfl zt rfl T.g_HouseError (fun W pn xe zt zo => pss_one (ps_expr (zcall (A.read) hr rfl T.g_read (fun σ => passAt zt σ) (pa_cons (pv 0) (pa_nil))))) (fun a oe pn => pss_one (zset 1 nd (pe_bl)))) (pss_one (ps_ret (pv 1))))), body_ok (facts T) fn_l_refused_by_any rfl h⟩
theorem ok_law {P : Program} {w : World} {K : PySem.W.Frag} {mg : Str → Option Value} {base : Heap} {n : Nat} (T : HF K mg) (A : AL P w K mg base n) {fd : FuncData} (F : FN_law K fd) : FnOk P w K mg base (L2.CX P w) (2 * (n + 1)) (He.fAd K ("law", none)) fd ["_law_script"] (spR PR K (n + 1) "law") :=
  F.ok (k := 2 * n + 1) sc_law (fun _ _ _ _ h => spR_len fn_law h) fun cdv A0 outer s H vs Q E hr1 h => by
    have hr : Room (2 * n) (A0.deeper (envOfC "law" (defScope st_law) s.heap.objs.size (He.fAd K ("law", none)) cdv)) := hr1.mono (Nat.le_succ _)
    have hu := hr.units
    have nd := sc_law.nd
    have zo : PassesOwn (model P w) (cxOf (L2.CX P w) P w K mg base ["_law_script", "_law_cells", "_law_many", "_law_number", "_law_rows_here", "_law_parts", "_law_way", "_law_signs", "_law_cell", "_law_row", "_law_k"] "law" (defScope st_law) (He.fAd K ("law", none)) cdv A0 outer s H E).A (cxOf (L2.CX P w) P w K mg base ["_law_script", "_law_cells", "_law_many", "_law_number", "_law_rows_here", "_law_parts", "_law_way", "_law_signs", "_law_cell", "_law_row", "_law_k"] "law" (defScope st_law) (He.fAd K ("law", none)) cdv A0 outer s H E).env (cxOf (L2.CX P w) P w K mg base ["_law_script", "_law_cells", "_law_many", "_law_number", "_law_rows_here", "_law_parts", "_law_way", "_law_signs", "_law_cell", "_law_row", "_law_k"] "law" (defScope st_law) (He.fAd K ("law", none)) cdv A0 outer s H E).xe := passes_of rfl
    have zt : Takes (cxOf (L2.CX P w) P w K mg base ["_law_script", "_law_cells", "_law_many", "_law_number", "_law_rows_here", "_law_parts", "_law_way", "_law_signs", "_law_cell", "_law_row", "_law_k"] "law" (defScope st_law) (He.fAd K ("law", none)) cdv A0 outer s H E) (fun cls d _ H => E cls d H) := takes_of rfl rfl rfl rfl
    exact ⟨rdS (rc PR K (gv K) n fun cls d _ H => E cls d H) F_law.body, (pss_cons (zset 1 nd (zb_list rfl rfl T.b_list (pa_cons (pe_slice z_slice (pv 0) (po_some (pe_int)) (po_some (pe_int))) (pa_nil)))) (pss_cons (zset 2 nd (pe_op z_add (zb_len rfl T.b_len (pa_cons (pv 1) (pa_nil))) (pe_int))) (pss_cons (zset 3 nd (pe_op z_mod (pe_op z_fdiv (zcall (A.l_cell_at) hr rfl T.g__law_cell_at zpD (pa_cons (pv 0) (pa_cons (pe_int) (pa_nil)))) (pe_int)) (pe_op z_pow (pe_int) (pe_int)))) (pss_cons (ps_setLc (i := 4) (own := [("_law_cell", 8)]) rfl nd rfl rfl (sw_true rfl rfl rfl (by decide +kernel)) (zi_seq (pv 1)) (blkOk_by (own := [("_law_cell", 8)]) (by kernel_rfl)) (fun _ _ _ _ _ => znm 8 nd) (fun _ _ _ _ _ => pts_nil) (fun _ _ _ _ _ => zcall (A.l_row_by) hr rfl T.g__law_row_by zpL (pa_cons (pv 8) (pa_cons (zb_len rfl T.b_len (pa_cons (pv 1) (pa_nil))) (pa_nil))))) (pss_cons (ps_setLc (i := 5) (own := [("_law_row", 9)]) rfl nd rfl rfl (sw_true rfl rfl rfl (by decide +kernel)) (zi_seq (pv 4)) (blkOk_by (own := [("_law_row", 9)]) (by kernel_rfl)) (fun _ _ _ _ _ => znm 9 nd) (fun _ _ _ _ _ => pts_nil) (fun _ _ _ _ _ => zcall (A.l_part) hr rfl T.g__law_part zpL (pa_cons (pv 9) (pa_nil)))) (pss_cons (zset 6 nd (pe_op z_mod (zcall (A.l_cell_at) hr rfl T.g__law_cell_at zpD (pa_cons (pv 0) (pa_cons (pe_int) (pa_nil)))) (pe_int))) (pss_cons (ps_if (pt_cmpR (z_lt hu) (pv 6) (pe_int) (nomark _)) (pss_one (ps_expr (zm_insert (pv 5) (pa_cons (pe_op z_mod (zcall (A.l_cell_at) hr rfl T.g__law_cell_at zpD (pa_cons (pv 0) (pa_cons (pe_int) (pa_nil)))) (pv 2)) (pa_cons (zcall (A.l_wrong) hr rfl T.g__law_wrong zpD (pa_cons (pv 3) (pa_cons (pv 2) (pa_nil)))) (pa_nil)))))) (pss_nil)) (pss_cons (ps_if (pt_cmpR (z_eq hu) (pv 6) (pe_int) (nomark _)) (pss_one (ps_setLc (i := 5) (own := [("_law_k", 10)]) rfl nd rfl rfl (sw_true rfl rfl rfl (by decide +kernel)) (zi_range1 rfl T.b_range (pa_cons (pe_op z_add (pe_int) (pe_op z_mod (pv 3) (pe_int))) (pa_nil))) (blkOk_by (own := [("_law_k", 10)]) (by kernel_rfl)) (fun _ _ _ _ _ => znm 10 nd) (fun _ _ _ _ _ => pts_nil) (fun _ _ _ _ _ => pe_str))) (pss_nil)) (pss_cons (zset 7 nd (zm_join (pe_str) (pv 5))) (pss_cons (ps_if (pt_cmpR (z_lt hu) (pv 6) (pe_int) (nomark _)) (pss_one (ps_ret (pe_and (zcall (A.l_refused) hr rfl T.g__law_refused zpD (pa_cons (pv 7) (pa_nil))) (pe_one (zcall (A.l_refused_by_any) hr rfl T.g__law_refused_by_any zpD (pa_cons (pv 7) (pa_nil))))))) (pss_nil)) (pss_one (ps_ret (zcall (A.l_rows) hr rfl T.g__law_rows zpD (pa_cons (zcall (A.read) hr rfl T.g_read zpD (pa_cons (pv 7) (pa_nil))) (pa_cons (pv 4) (pa_nil)))))))))))))))), body_ok (facts T) fn_law rfl h⟩
theorem al_zero {P : Program} {w : World} {K : PySem.W.Frag} {mg : Str → Option Value} {base : Heap} (T : HF K mg) : AL P w K mg base 0 :=
  ⟨cal_numbered T fun _ _ => fn_zero,
   cal_number_of T fun _ _ => fn_zero,
   cal_fits T fun _ _ => fn_zero,
   cal_right_row T fun _ _ => fn_zero,
   cal_right T fun _ _ => fn_zero,
   cal_read_row T fun _ _ => fn_zero,
   cal_read T fun _ _ => fn_zero,
   cal_l_cell_at T fun _ _ => fn_zero,
   cal_l_words T fun _ _ => fn_zero,
   cal_l_row_by T fun _ _ => fn_zero,
   cal_l_part T fun _ _ => fn_zero,
   cal_l_wrong T fun _ _ => fn_zero,
   cal_l_alike T fun _ _ => fn_zero,
   cal_l_rows T fun _ _ => fn_zero,
   cal_l_other T fun _ _ => fn_zero,
   cal_l_refused T fun _ _ => fn_zero,
   cal_l_refused_by_any T fun _ _ => fn_zero,
   cal_law T fun _ _ => fn_zero⟩
theorem al_succ {P : Program} {w : World} {K : PySem.W.Frag} {mg : Str → Option Value} {base : Heap} {n : Nat} (T : HF K mg) (A : AL P w K mg base n) : AL P w K mg base (n + 1) :=
  ⟨cal_numbered T fun _ F => ok_numbered T A F,
   cal_number_of T fun _ F => ok_number_of T A F,
   cal_fits T fun _ F => ok_fits T A F,
   cal_right_row T fun _ F => ok_right_row T A F,
   cal_right T fun _ F => ok_right T A F,
   cal_read_row T fun _ F => ok_read_row T A F,
   cal_read T fun _ F => ok_read T A F,
   cal_l_cell_at T fun _ F => ok_l_cell_at T A F,
   cal_l_words T fun _ F => ok_l_words T A F,
   cal_l_row_by T fun _ F => ok_l_row_by T A F,
   cal_l_part T fun _ F => ok_l_part T A F,
   cal_l_wrong T fun _ F => ok_l_wrong T A F,
   cal_l_alike T fun _ F => ok_l_alike T A F,
   cal_l_rows T fun _ F => ok_l_rows T A F,
   cal_l_other T fun _ F => ok_l_other T A F,
   cal_l_refused T fun _ F => ok_l_refused T A F,
   cal_l_refused_by_any T fun _ F => ok_l_refused_by_any T A F,
   cal_law T fun _ F => ok_law T A F⟩
theorem al_all {P : Program} {w : World} {K : PySem.W.Frag} {mg : Str → Option Value} {base : Heap} (T : HF K mg) : ∀ n, AL P w K mg base n
  | 0 => al_zero T
  | n + 1 => al_succ T (al_all T n)
/-! ### the head -/
abbrev R : PySem.W.OpenRow := PySem.W.OpenLaw.row PySem.Challenge.rw_meterhouse_k09_texts_refused
abbrev hk : PySem.W.Hook := hookZ 4 fas dfs exb
def ob (s : PySem.W.SharedT) : AlZ := obsZ 4 fas dfs exb (HandSHeadRun.getT s)
theorem ob_eq (s : PySem.W.SharedT) : ob s = hk.obs s.abs := obsZ_eq (HandSHeadRun.getT_eq s)
theorem run (w : World) : HandSHeadRun.RunEq R (PySem.W.view R.prog [39]) hk ob 40000 ("HouseError" :: "NoCode" :: "NoClash" :: "NoSlot" :: "Taken" :: "NoNumber" :: "TooMuch" :: "NoAccount" :: "NoLimit" :: "PoorPurse" :: "PoorCoin" :: "NoPaper" :: "NoRow" :: "WIDE" :: "WORDS" :: "numbered" :: "FIGURES" :: "number_of" :: "MOST" :: "fits" :: "right_row" :: "right" :: "read_row" :: "read" :: "_law_cell_at" :: "_law_words" :: "_law_row_by" :: "_law_part" :: "_law_wrong" :: "_law_alike" :: "_law_rows" :: "_law_other" :: "_law_refused" :: "_law_refused_by_any" :: []) w := by
  intro os
  kernel_rfl
end K09
end Z
open PySem PySem.W PySem.Calls PyProof.Rows
theorem Z.K09.holds_of (N : Nat) (hN : Nat.ble N 100 = true) (sol : ∀ ns : List Int, ns.length ≤ 63 → ∃ h', Z.callF Z.K09.PR (N + 1) "law" [.ref 0] (Z.h0 ns) = some (.ok (.bl true), h')) : PySem.Challenge.rw_meterhouse_k09_texts_refused.Holds := by
  w_on; o_law
  refine HandSHeadRun.head_any (r := OpenLaw.row PySem.Challenge.rw_meterhouse_k09_texts_refused) (q := view (OpenLaw.row PySem.Challenge.rw_meterhouse_k09_texts_refused).prog [39]) (H := Z.K09.hk) (ob := Z.K09.ob) (M := 40000) (loose := ("HouseError" :: "NoCode" :: "NoClash" :: "NoSlot" :: "Taken" :: "NoNumber" :: "TooMuch" :: "NoAccount" :: "NoLimit" :: "PoorPurse" :: "PoorCoin" :: "NoPaper" :: "NoRow" :: "WIDE" :: "WORDS" :: "numbered" :: "FIGURES" :: "number_of" :: "MOST" :: "fits" :: "right_row" :: "right" :: "read_row" :: "read" :: "_law_cell_at" :: "_law_words" :: "_law_row_by" :: "_law_part" :: "_law_wrong" :: "_law_alike" :: "_law_rows" :: "_law_other" :: "_law_refused" :: "_law_refused_by_any" :: [])) (d := HandSHeadRun.topDef (OpenLaw.row PySem.Challenge.rw_meterhouse_k09_texts_refused).prog 39) (kwd := []) Z.K09.ob_eq
    (by kernel_rfl) (fun s => by kernel_rfl) Z.K09.run (by kernel_rfl) (by kernel_rfl) (by kernel_rfl) (by rfl) (by first | assumption | decide +kernel) (by decide +kernel) ⟨rfl, rfl, rfl, rfl, rfl, by decide +kernel⟩ ?hw ?hc
  case hw => w_witness2
  case hc =>
    refine L2.walk_ofE (l := PySem.Challenge.rw_meterhouse_k09_texts_refused) (n := 63) (k := 2 * (N + 1)) (x := "_law_script") (CX := L2.CX0) rfl (by decide) (by kernel_rfl) (L2.Room.mono (k := 202) ⟨rfl, by decide, by decide⟩ (by have := Nat.le_of_ble_eq_true hN; omega)) ?F (fun _ _ _ _ z => z)
    intro w mg fa h Y G hmg0
    obtain ⟨K, KX, c⟩ := Y
    have hmg : mg ("law" : PySem.Str) = some (.ref fa) := by
      have e : (HandSHeadRun.topDef (OpenLaw.row PySem.Challenge.rw_meterhouse_k09_texts_refused).prog 39).name = ("law" : PySem.Str) := by kernel_rfl
      rw [← e]
      exact hmg0
    have T := Z.K09.hf_of KX G c
    obtain ⟨fd, F⟩ := T.d_law
    have e := hmg.symm.trans T.g_law
    cases e
    have b := L2.FunD.bindsA (ps := ["_law_script"]) F fun _ _ _ _ _ _ us hl => match us, hl with | [_], _ => rfl
    exact ⟨K, fd, fun vs H Q _ => Z.spR Z.K09.PR K (N + 1) "law" vs H Q fun _ _ _ => False, KX, fun s v => b s [v] rfl, fun H a ns hl hO hS => Z.law_sp (n := 63) Z.K09.fn_law rfl sol H a ns hl hO hS, fun base hb hn => Z.ok0 (Z.K09.ok_law T (Z.K09.al_all T N) F)⟩

set_option maxRecDepth 100000
set_option maxHeartbeats 4000000
namespace Z
namespace K09
open PySem
local macro_rules
  | `(tactic| trivial) => `(tactic| first | omega | (simp only [new_next, put_next, h0_next, List.length_map, List.length_append, List.length_cons, List.length_nil, List.length_range] <;> omega))
local macro_rules
  | `(tactic| simp_arith [$ls,*]) => `(tactic| simp (maxSteps := 1000000) (disch := first | omega | (simp only [new_next, put_next, h0_next, List.length_map, List.length_append, List.length_cons, List.length_nil, List.length_range] <;> omega) | assumption | (simp <;> fail) | omega) [$ls,*])
  | `(tactic| simp_arith [$ls,*] $loc:location) => `(tactic| simp (maxSteps := 1000000) (disch := first | omega | (simp only [new_next, put_next, h0_next, List.length_map, List.length_append, List.length_cons, List.length_nil, List.length_range] <;> omega) | assumption | (simp <;> fail) | omega) [$ls,*] $loc)
local macro_rules
  | `(tactic| simp_arith! [$ls,*]) => `(tactic| simp (maxSteps := 1000000) (disch := first | omega | (simp only [new_next, put_next, h0_next, List.length_map, List.length_append, List.length_cons, List.length_nil, List.length_range] <;> omega) | assumption | (simp (disch := omega) <;> assumption) | omega) [$ls,*])
  | `(tactic| simp_arith! [$ls,*] $loc:location) => `(tactic| simp (maxSteps := 1000000) (disch := first | omega | (simp only [new_next, put_next, h0_next, List.length_map, List.length_append, List.length_cons, List.length_nil, List.length_range] <;> omega) | assumption | (simp (disch := omega) <;> assumption) | omega) [$ls,*] $loc)

def wds : List String := ["push", "drop", "copy", "swap", "add", "minus", "times", "over", "rest", "below", "same", "both", "either", "unlike", "up", "down", "jump", "jumpif", "load", "save", "me", "from", "sent", "word", "coin", "note", "call", "borrow", "look", "give", "fail"]
def nbs : List String := ["push", "copy", "swap", "jump", "jumpif"]
def W31 : List D := wds.map fun s => .str (Str.ofString s)
theorem in_strs (w : String) (ss : List String) : inL (.str (Str.ofString w)) (ss.map fun s => .str (Str.ofString s)) = some (decide (w ∈ ss)) := by
  rw [inL_flat rfl (by simp)]
  congr 1
  rw [Bool.eq_iff_iff, List.any_eq_true, decide_eq_true_eq]
  simp only [List.mem_map]
  constructor
  · rintro ⟨_, ⟨s, hs, rfl⟩, h⟩
    simp at h
    exact h ▸ hs
  · intro h
    exact ⟨_, ⟨w, h, rfl⟩, by simp⟩
def ft (w : String) (v m : Int) : Bool := if w = "push" then decide (0 ≤ v ∧ v < 18446744073709551616) else if w = "copy" then decide (0 ≤ v ∧ v ≤ 15) else if w = "swap" then decide (1 ≤ v ∧ v ≤ 15) else decide (0 ≤ v ∧ v ≤ m)
/-- a right row -/
def rr (r : Rw) (m : Int) : Bool := decide (r.1 ∈ wds) && (if r.1 ∈ nbs then (match r.2 with
  | none => false
  | some v => ft r.1 v m) else r.2.isNone)
/-- the row by a cell -/
def rb (k c : Int) : Rw :=
  let w := wds.getD (c % 31).toNat ""
  if w = "push" then (w, some (c / 31 % 18446744073709551616)) else if w = "copy" then (w, some (c / 31 % 16)) else if w = "swap" then (w, some (1 + c / 31 % 15)) else if w = "jump" ∨ w = "jumpif" then (w, some (c / 31 % (k + 1))) else (w, none)
theorem wd_cases (c : Int) : ∃ i : Nat, i < 31 ∧ c % 31 = (i : Int) := ⟨(c % 31).toNat, by omega, by omega⟩
theorem rb_rr (k m c : Int) (hk : 0 ≤ k) (hm : k ≤ m) : rr (rb k c) m = true ∧ okW (rb k c) = true := by
  obtain ⟨i, hi, e⟩ := wd_cases c
  have p1 := Int.emod_nonneg (c / 31) (show (18446744073709551616 : Int) ≠ 0 by decide)
  have p2 := Int.emod_lt_of_pos (c / 31) (show (0 : Int) < 18446744073709551616 by decide)
  have p3 := Int.emod_nonneg (c / 31) (show k + 1 ≠ 0 by omega)
  have p4 := Int.emod_lt_of_pos (c / 31) (show 0 < k + 1 by omega)
  have p5 : 0 ≤ c / 31 % 16 ∧ c / 31 % 16 ≤ 15 := by omega
  have p6 : 1 ≤ 1 + c / 31 % 15 ∧ 1 + c / 31 % 15 ≤ 15 := by omega
  have p7 : c / 31 % (k + 1) ≤ m := by omega
  have : i = 0 ∨ i = 1 ∨ i = 2 ∨ i = 3 ∨ i = 4 ∨ i = 5 ∨ i = 6 ∨ i = 7 ∨ i = 8 ∨ i = 9 ∨ i = 10 ∨ i = 11 ∨ i = 12 ∨ i = 13 ∨ i = 14 ∨ i = 15 ∨ i = 16 ∨ i = 17 ∨ i = 18 ∨ i = 19 ∨ i = 20 ∨ i = 21 ∨ i = 22 ∨ i = 23 ∨ i = 24 ∨ i = 25 ∨ i = 26 ∨ i = 27 ∨ i = 28 ∨ i = 29 ∨ i = 30 := by omega
  rcases this with rfl | rfl | rfl | rfl | rfl | rfl | rfl | rfl | rfl | rfl | rfl | rfl | rfl | rfl | rfl | rfl | rfl | rfl | rfl | rfl | rfl | rfl | rfl | rfl | rfl | rfl | rfl | rfl | rfl | rfl | rfl <;>
    (unfold rb okW; rw [e]; simp [wds, rr, nbs, ft, p1, p2, p3, p5, p6, p7]; first | done | decide +kernel)
theorem c_words (n : Nat) (h : Hm) : ∃ g, callF PR (n + 1) "_law_words" [] h = some (.ok (.ref (h.next + 4)), g) ∧ Gro h g ∧ h.next + 4 < g.next ∧ g.get (h.next + 4) = some (.lst W31) := by
  rw [callF_eq fn_l_words rfl]
  simp_arith [F_l_words]
  exact ⟨((((Gro.new.trans .new).trans .new).trans .new).trans .new), rfl⟩
theorem at_W31 (i : Nat) (hi : i < 31) : atD W31 (i : Int) = some (.str (Str.ofString (wds.getD i ""))) := by
  rw [atD_nat, W31, List.getElem?_map, List.getElem?_eq_getElem (by simpa [wds] using hi), List.getD_eq_getElem?_getD, List.getElem?_eq_getElem (by simpa [wds] using hi)]; rfl
theorem c_row_by (n : Nat) (k c : Int) (hk : 0 ≤ k) (h : Hm) : ∃ g, callF PR (n + 2) "_law_row_by" [.int c, .int k] h = some (.ok (rwD (rb k c)), g) ∧ Gro h g := by
  rw [callF_eq fn_l_row_by rfl]
  obtain ⟨g, e1, g1, _, e2⟩ := c_words n h
  obtain ⟨i, hi, e⟩ := wd_cases c
  have a1 := at_W31 i hi
  unfold rb
  rw [e, Int.toNat_natCast]
  generalize wds.getD i "" = w at a1
  have pk : 0 < k + 1 := by omega
  by_cases w1 : w = "push"
  · subst w1; simp_arith [F_l_row_by, e1, e2, e, a1, rwD]; exact g1
  by_cases w2 : w = "copy"
  · subst w2; simp_arith [F_l_row_by, e1, e2, e, a1, rwD]; exact g1
  by_cases w3 : w = "swap"
  · subst w3; simp_arith [F_l_row_by, e1, e2, e, a1, rwD]; exact g1
  by_cases w4 : w = "jump"
  · subst w4; simp_arith [F_l_row_by, e1, e2, e, a1, rwD]; exact g1
  by_cases w5 : w = "jumpif"
  · subst w5; simp_arith [F_l_row_by, e1, e2, e, a1, rwD]; exact g1
  · simp_arith [F_l_row_by, e1, e2, e, a1, rwD, w1, w2, w3, w4, w5]; exact g1

theorem gl_W31 : PR.glob "WORDS" = some (.tup W31) := gl_WORDS
theorem c_numbered (n : Nat) (w : String) (h : Hm) : callF PR (n + 1) "numbered" [.str (Str.ofString w)] h = some (.ok (.bl (decide (w ∈ nbs))), h) := by
  rw [callF_eq fn_numbered rfl]
  have := in_strs w nbs
  simp only [nbs, List.map_cons, List.map_nil] at this
  simp_arith [F_numbered, -inL_s, this]
  simp [nbs]
theorem c_fits (n : Nat) (w : String) (v m : Int) (h : Hm) : callF PR (n + 1) "fits" [.str (Str.ofString w), .int v, .int m] h = some (.ok (.bl (ft w v m)), h) := by
  rw [callF_eq fn_fits rfl]
  unfold ft
  by_cases h0 : 0 ≤ v
  · by_cases w1 : w = "push"
    · subst w1; simp_arith [F_fits, h0]
    by_cases w2 : w = "copy"
    · subst w2; simp_arith [F_fits, h0]
    by_cases w3 : w = "swap"
    · subst w3
      by_cases h1 : 1 ≤ v <;> simp_arith [F_fits, h0, h1]
    · simp_arith [F_fits, w1, w2, w3, h0]
  · by_cases w1 : w = "push"
    · subst w1; simp_arith [F_fits, h0]
    by_cases w2 : w = "copy"
    · subst w2; simp_arith [F_fits, h0]
    by_cases w3 : w = "swap"
    · subst w3
      by_cases h1 : 1 ≤ v
      · omega
      · simp_arith [F_fits, h0, h1]
    · simp_arith [F_fits, w1, w2, w3, h0]
theorem c_right_row (n : Nat) (r : Rw) (m : Int) (h : Hm) : callF PR (n + 2) "right_row" [rwD r, .int m] h = some (.ok (.bl (rr r m)), h) := by
  rw [callF_eq fn_right_row rfl]
  obtain ⟨w, x⟩ := r
  have h1 := in_strs w wds
  have h2 := c_numbered n w h
  unfold rr
  dsimp only
  by_cases m1 : w ∈ wds
  · by_cases m2 : w ∈ nbs
    · cases x with
      | none => simp_arith [F_right_row, -gl_WORDS, gl_W31, -inL_s, W31, h1, h2, m1, m2, rwD]
      | some v =>
        have h3 := c_fits n w v m h
        simp_arith [F_right_row, -gl_WORDS, gl_W31, -inL_s, W31, h1, h2, h3, m1, m2, rwD]
    · cases x with
      | none => simp_arith [F_right_row, -gl_WORDS, gl_W31, -inL_s, W31, h1, h2, m1, m2, rwD]
      | some v => simp_arith [F_right_row, -gl_WORDS, gl_W31, -inL_s, W31, h1, h2, m1, m2, rwD]
  · cases x with
    | none => simp_arith [F_right_row, -gl_WORDS, gl_W31, -inL_s, W31, h1, h2, m1, rwD]
    | some v => simp_arith [F_right_row, -gl_WORDS, gl_W31, -inL_s, W31, h1, h2, m1, rwD]
theorem c_right (n a : Nat) (rs : List Rw) (h : Hm) (e : h.get a = some (.lst (rs.map rwD))) : callF PR (n + 3) "right" [.ref a] h = some (.ok (.bl (decide (rs.length ≤ 60) && rs.all fun r => rr r rs.length)), h) := by
  rw [callF_eq fn_right rfl]
  by_cases hl : 60 < rs.length
  · have h1 : ¬ rs.length ≤ 60 := by omega
    have h2 : (60 : Int) < rs.length := by omega
    simp_arith [F_right, e, h1, h2]
  · have h1 : rs.length ≤ 60 := by omega
    have h2 : ¬ (60 : Int) < rs.length := by omega
    simp_arith [F_right, e, h1, h2]
    refine findO (fun o => endF o = some (.ok (.bl (rs.all fun r => rr r rs.length)), h)) rwD (fun r => !rr r rs.length) (fun env => ∃ v1, env = [some (.ref a), v1]) ⟨_, rfl⟩ (by simp_arith [e]) ?_ ?_ ?_
    · rintro r hr hp env ⟨v1, rfl⟩
      have hq : rr r rs.length = true := by simpa using hp
      have q1 := c_right_row n r rs.length h
      refine ⟨_, rfl, [some (.ref a), some (rwD r)], ?_, _, rfl⟩
      simp_arith [e, q1, hq]
    · rintro r hr hp env ⟨v1, rfl⟩
      have hq : rr r rs.length = false := by simpa using hp
      have q1 := c_right_row n r rs.length h
      have q2 : (rs.all fun r => rr r rs.length) = false := by
        rw [Bool.eq_false_iff]; intro z
        rw [List.all_eq_true] at z
        have := z r hr
        rw [hq] at this; cases this
      refine ⟨_, rfl, .bl false, [some (.ref a), some (rwD r)], ?_, ?_⟩
      · simp_arith [e, q1, hq]
      · rw [q2, endF_rt]
    · rintro hp env ⟨v1, rfl⟩
      have q2 : (rs.all fun r => rr r rs.length) = true := by
        rw [List.all_eq_true]; intro r hr
        simpa using hp r hr
      rw [q2]
      simp_arith []

def dgB (c : Nat) : Bool := decide (48 ≤ c ∧ c ≤ 57)
theorem fig_list : (Str.ofString "0123456789").cps.toList = [48, 49, 50, 51, 52, 53, 54, 55, 56, 57] := by decide +kernel
theorem in_fig (c : Nat) : decide (c ∈ (Str.ofString "0123456789").cps.toList) = dgB c := by
  rw [fig_list, Bool.eq_iff_iff, decide_eq_true_eq, dgB, decide_eq_true_eq]
  simp
  omega
theorem nin_fig (c : Nat) (h : Hm) : cmpD .nin (.str ⟨#[c]⟩) (.str (Str.ofString "0123456789")) h = some (!dgB c) := by
  have : inS ⟨#[c]⟩ (Str.ofString "0123456789") = dgB c := by
    unfold inS
    rw [if_pos (show (#[c] : Array Nat).size = 1 from rfl)]
    exact in_fig c
  simp only [cmpD, inD, this, Option.map_some]
theorem find_fig (c : Nat) : Txt.find (Str.ofString "0123456789") ⟨#[c]⟩ = if dgB c = true then (c : Int) - 48 else -1 := by
  by_cases hc : dgB c = true
  · rw [if_pos hc]
    unfold dgB at hc
    rw [decide_eq_true_eq] at hc
    have : c = 48 ∨ c = 49 ∨ c = 50 ∨ c = 51 ∨ c = 52 ∨ c = 53 ∨ c = 54 ∨ c = 55 ∨ c = 56 ∨ c = 57 := by omega
    rcases this with rfl | rfl | rfl | rfl | rfl | rfl | rfl | rfl | rfl | rfl <;> decide +kernel
  · rw [if_neg hc]
    have h1 := PyProof.Rows.empty_one (Str.ofString "0123456789") c
    have h2 : dgB c = false := by simpa using hc
    rw [in_fig, h2] at h1
    unfold Txt.find
    cases e : Builtin.Str.occurrences (Str.ofString "0123456789") ⟨#[c]⟩ 0 (Str.ofString "0123456789").length 1 with
    | nil => rfl
    | cons i r => rw [e] at h1; cases h1
theorem one_eq (c : Nat) : ((⟨#[c]⟩ : Str) = Str.ofString "0") ↔ c = 48 := by
  have : Str.ofString "0" = ⟨#[48]⟩ := by decide +kernel
  rw [this]
  constructor
  · intro e; injection e with e; simpa using e
  · rintro rfl; rfl
/-- the number that a text writes -/
def vl (z : Str) : Int := (NumText.digitsVal z.cps.toList : Nat)
def nof (z : Str) : Option Int := if 1 ≤ z.length ∧ z.length ≤ 20 ∧ z.cps.toList.all dgB = true ∧ ¬ (z.cps.toList[0]? = some 48 ∧ 1 < z.length) ∧ vl z < 18446744073709551616 then some (vl z) else none
def oD : Option Int → D
  | none => .non
  | some v => .int v
theorem len_list (z : Str) : z.cps.toList.length = z.length := by simp [Str.length]
theorem c_number_of (n : Nat) (z : Str) (hz : z.length ≤ 10000) (h : Hm) : callF PR (n + 1) "number_of" [.str z] h = some (.ok (oD (nof z)), h) := by
  rw [callF_eq fn_number_of rfl]
  by_cases h1 : z.length < 1
  · have h2 : (z.length : Int) < 1 := by omega
    have : nof z = none := if_neg (by omega)
    simp_arith [F_number_of, h2, this, oD]
  by_cases h3 : 20 < z.length
  · have h2 : ¬ (z.length : Int) < 1 := by omega
    have h4 : 20 < (z.length : Int) := by omega
    have : nof z = none := if_neg (by omega)
    simp_arith [F_number_of, h2, h4, this, oD]
  have h2 : ¬ (z.length : Int) < 1 := by omega
  have h4 : ¬ 20 < (z.length : Int) := by omega
  simp_arith [F_number_of, h2, h4]
  refine findO (fun o => endF o = some (.ok (oD (nof z)), h)) (fun c => D.str ⟨#[c]⟩) (fun c => !dgB c) (fun env => ∃ v1, env = [some (.str z), v1, none]) ⟨_, rfl⟩ (stays_nil _) ?_ ?_ ?_
  · rintro c hc hp env ⟨v1, rfl⟩
    refine ⟨_, rfl, [some (.str z), some (.str ⟨#[c]⟩), none], ?_, _, rfl⟩
    have hp' : dgB c = true := by simpa using hp
    simp_arith [nin_fig, hp']
  · rintro c hc hp env ⟨v1, rfl⟩
    have hp' : dgB c = false := by simpa using hp
    refine ⟨_, rfl, .non, [some (.str z), some (.str ⟨#[c]⟩), none], ?_, ?_⟩
    · simp_arith [nin_fig, hp']
    · have : nof z = none := if_neg (fun q => by have := List.all_eq_true.mp q.2.2.1 c hc; rw [hp'] at this; cases this)
      rw [this]; rfl
  · rintro hp env ⟨v1, rfl⟩
    have hall : z.cps.toList.all dgB = true := by
      rw [List.all_eq_true]; intro c hc; simpa using hp c hc
    have ll := len_list z
    obtain ⟨c0, r, hcr⟩ : ∃ c0 r, z.cps.toList = c0 :: r := by
      cases e : z.cps.toList with
      | nil => rw [e] at ll; simp at ll; omega
      | cons c r => exact ⟨c, r, rfl⟩
    have i0 : idxD (.str z) (.int 0) h = some (.str ⟨#[c0]⟩) := idx_str (by omega) (by rw [hcr]; rfl)
    have ad : NumText.AllDigits z.cps.toList := fun c hc => by have := List.all_eq_true.mp hall c hc; simpa [dgB] using this
    have it := intText_digits ad (by rw [hcr]; simp) (by omega)
    have bi : biD .int [.str z] h = some (.ok (.int (vl z)), h) := bi_intS (by omega) it
    have g0 : z.cps.toList[0]? = some c0 := by rw [hcr]; rfl
    by_cases hc0 : c0 = 48 ∧ 1 < z.length
    · have h5 : 1 < (z.length : Int) := by omega
      have : nof z = none := if_neg (fun q => q.2.2.2.1 ⟨by rw [g0, hc0.1], hc0.2⟩)
      simp_arith [i0, one_eq, hc0.1, h5, this, oD]
    · have h5 : ¬ (c0 = 48 ∧ 1 < (z.length : Int)) := fun q => hc0 ⟨q.1, by omega⟩
      by_cases hv : vl z < 18446744073709551616
      · have : nof z = some (vl z) := if_pos ⟨by omega, by omega, hall, fun q => hc0 ⟨by rw [g0] at q; simpa using q.1, q.2⟩, hv⟩
        by_cases hq : c0 = 48
        · have h6 : ¬ 1 < (z.length : Int) := fun q => h5 ⟨hq, q⟩
          simp_arith [i0, one_eq, hq, h6, this, oD, bi, hv]
        · simp_arith [i0, one_eq, hq, this, oD, bi, hv]
      · have : nof z = none := if_neg (fun q => hv q.2.2.2.2)
        by_cases hq : c0 = 48
        · have h6 : ¬ 1 < (z.length : Int) := fun q => h5 ⟨hq, q⟩
          simp_arith [i0, one_eq, hq, h6, this, oD, bi, hv]
        · simp_arith [i0, one_eq, hq, this, oD, bi, hv]

/-! short loops and comprehensions over what is written out, turn by turn -/
theorem forL_c0 {fb : Env → Hm → Out} {g : Tg} {x : D} {xs : List D} {env : Env} {h : Hm} : forL fb g [] (x :: xs) env h = @someI _ _ (asgT g x env) fun env1 => @thenSI (fb env1 h) fun env2 h2 => forL fb g [] xs env2 h2 := forL_cons (stays_nil _)
theorem forL_n0 {fb : Env → Hm → Out} {g : Tg} {env : Env} {h : Hm} : forL fb g [] [] env h = some (.nx, env, h) := forL_nil (stays_nil _)
set_option checkBinderAnnotations false in
def accI (o : Option O) [k : List D → Res D] : Res D := match o with
  | some (.lst acc) => k acc
  | _ => none
@[simp] theorem accI_l (acc : List D) (k : List D → Res D) : @accI (some (.lst acc)) k = k acc := id rfl
theorem compL_c0 {fe : Env → Hm → Res D} {ft : Env → Hm → Res Bool} {g : Tg} {a : Nat} {env : Env} {x : D} {xs : List D} {h : Hm} : compL fe ft g [] a env (x :: xs) h = @someI _ _ (asgT g x env) fun env1 => @bndNI _ _ (ft env1 h) fun b h2 => if b = true then @bndNI _ _ (fe env1 h2) fun y h3 => @accI (h3.get a) fun acc => if acc.length < 1000000 then compL fe ft g [] a env xs (h3.put a (.lst (acc ++ [y]))) else none else compL fe ft g [] a env xs h2 := by
  rw [compL, if_pos (stays_nil _)]
  cases asgT g x env <;> rfl
theorem compL_n0 {fe : Env → Hm → Res D} {ft : Env → Hm → Res Bool} {g : Tg} {a : Nat} {env : Env} {h : Hm} : compL fe ft g [] a env [] h = some (.ok (.ref a), h) := compL_nil (stays_nil _)
/-- a body that runs through, and what holds then -/
def Thru (I : Env → Hm → Prop) (o : Out) : Prop := ∃ env2 h2, o = some (.nx, env2, h2) ∧ I env2 h2
theorem Thru.nx {I : Env → Hm → Prop} {env : Env} {h : Hm} (i : I env h) : Thru I (some (.nx, env, h)) := ⟨_, _, rfl, i⟩
def Ends (R : Res D → Prop) (o : Out) : Prop := R (endF o)
theorem name_thru {I : Env → Hm → Prop} {cl : Cl} {b : Z.S} {env : Env} {H : Hm} (p : ∀ G, H = G → Thru I (ex PR cl b env G)) : Thru I (ex PR cl b env H) := p H rfl
theorem name_ends {R : Res D → Prop} {cl : Cl} {b : Z.S} {env : Env} {H : Hm} (p : ∀ G, H = G → Ends R (ex PR cl b env G)) : Ends R (ex PR cl b env H) := p H rfl
/-- a for in a body, by what holds ahead of each turn -/
theorem for_seq {α : Type} {cl : Cl} (Q : Out → Prop) {g : Tg} {k : ItK} {es : Es} {body rest : Z.S} {env : Env} {h h1 : Hm} {vs : List D} {cs : List α} {gd : List (Nat × O)} (A : α → D) (I : List α → Env → Hm → Prop) (he : evs PR cl es env h = some (.ok vs, h1)) (hw : walk k vs h1 = some (cs.map A, gd))
    (i0 : I [] env h1) (hs : ∀ d env h, I d env h → stays gd h) (step : ∀ d c rest env h, cs = d ++ c :: rest → I d env h → ∃ env1, asgT g (A c) env = some env1 ∧ Thru (I (d ++ [c])) (ex PR cl body env1 h))
    (post : ∀ env h, I cs env h → Q (ex PR cl rest env h)) : Q (ex PR cl (.seq (.for_ g k es body) rest) env h) := by
  obtain ⟨env', h', e1, i1⟩ := forL_rel (fb := fun e1 h2 => ex PR cl body e1 h2) (g := g) (gd := gd) A I i0 hs step
  rw [seq_nx (by rw [ex_for_eq he hw]; exact e1)]
  exact post env' h' i1
theorem rg2 : (List.range 2).map (fun (i : Nat) => D.int (i : Int)) = [.int 0, .int 1] := rfl
theorem rg3 : (List.range 3).map (fun (i : Nat) => D.int (i : Int)) = [.int 0, .int 1, .int 2] := rfl
theorem rg4 : (List.range 4).map (fun (i : Nat) => D.int (i : Int)) = [.int 0, .int 1, .int 2, .int 3] := rfl
theorem rg5 : (List.range 5).map (fun (i : Nat) => D.int (i : Int)) = [.int 0, .int 1, .int 2, .int 3, .int 4] := rfl
/-- and, or of truths that nothing decides -/
def andB (x : D) (m : Res D) (h : Hm) : Res D := match x with
  | .bl true => m
  | .bl false => ok (.bl false) h
  | _ => none
@[simp] theorem andB_t (m : Res D) (h : Hm) : andB (.bl true) m h = m := id rfl
@[simp] theorem andB_f (m : Res D) (h : Hm) : andB (.bl false) m h = some (.ok (.bl false), h) := id rfl
@[simp] theorem andB_b (b c : Bool) (h : Hm) : andB (.bl b) (some (.ok (.bl c), h)) h = some (.ok (.bl (b && c)), h) := by cases b <;> rfl
theorem ev_and2 {P : Prog} {cl : Cl} (a b : E) (env : Env) (h : Hm) : ev P cl (.and a b) env h = @bndI _ _ (ev P cl a env h) fun x h1 => andB x (ev P cl b env h1) h1 := by rw [ev]; rfl
def orB (x : D) (m : Res D) (h : Hm) : Res D := match x with
  | .bl true => ok (.bl true) h
  | .bl false => m
  | _ => none
@[simp] theorem orB_t (m : Res D) (h : Hm) : orB (.bl true) m h = some (.ok (.bl true), h) := id rfl
@[simp] theorem orB_f (m : Res D) (h : Hm) : orB (.bl false) m h = m := id rfl
@[simp] theorem orB_b (b c : Bool) (h : Hm) : orB (.bl b) (some (.ok (.bl c), h)) h = some (.ok (.bl (b || c)), h) := by cases b <;> rfl
theorem ev_or2 {P : Prog} {cl : Cl} (a b : E) (env : Env) (h : Hm) : ev P cl (.or a b) env h = @bndI _ _ (ev P cl a env h) fun x h1 => orB x (ev P cl b env h1) h1 := by rw [ev]; rfl
/-- a while in a body, its turns counted -/
theorem wh_seq {cl : Cl} (Q : Out → Prop) {c : Z.T} {body rest : Z.S} {env : Env} {h : Hm} (I : Nat → Env → Hm → Prop) (e : Nat) (he : e < 1000000) (i0 : I 0 env h)
    (step : ∀ j env h, j < e → I j env h → evT PR cl c env h = some (.ok true, h) ∧ Thru (I (j + 1)) (ex PR cl body env h)) (stop : ∀ env h, I e env h → evT PR cl c env h = some (.ok false, h))
    (post : ∀ env h, I e env h → Q (ex PR cl rest env h)) : Q (ex PR cl (.seq (.wh c body) rest) env h) := by
  have lf : PR.lf = 1000000 := rfl
  obtain ⟨env', h', e1, i1⟩ := whl_inv (ft := fun e1 h1 => evT PR cl c e1 h1) (fb := fun e1 h1 => ex PR cl body e1 h1) I e step stop PR.lf 0 env h (Nat.zero_le _) (by rw [lf]; omega) i0
  rw [seq_nx (by rw [ex_wh]; exact e1)]
  exact post env' h' i1

theorem pickD {P : D → Prop} (xs : List D) (y : Int) (n : Int) (hn : (xs.length : Int) = n) (h0 : 0 < n) (h : ∀ x ∈ xs, P x) : ∃ z, atD xs (y % n) = some z ∧ P z := by
  have a := Int.emod_nonneg y (Int.ne_of_gt h0)
  have b := Int.emod_lt_of_pos y h0
  obtain ⟨k, hk⟩ := Int.eq_ofNat_of_zero_le a
  rw [hk] at b ⊢
  have hk' : k < xs.length := by omega
  refine ⟨xs[k], ?_, h _ (List.getElem_mem hk')⟩
  show atD _ (k : Int) = _
  rw [atD_nat, List.getElem?_eq_getElem hk']

theorem num_digits (m : Nat) : NumText.AllDigits (Str.ofString (toString (m : Int))).cps.toList := by
  rw [PySem.W.KIN.signs_num]
  intro c hc
  obtain ⟨d, hd, rfl⟩ := List.mem_map.mp hc
  have := Nat.isDigit_of_mem_toDigits (by decide) (by decide) hd
  simp only [Char.isDigit, Bool.and_eq_true, decide_eq_true_eq] at this
  exact ⟨this.1, this.2⟩
theorem nof_num (v : Int) (h0 : 0 ≤ v) (h1 : v < 18446744073709551616) : nof (Str.ofString (toString v)) = some v := by
  obtain ⟨m, rfl⟩ := Int.eq_ofNat_of_zero_le h0
  have hs := PySem.W.KIN.signs_num m
  have hv : vl (Str.ofString (toString (m : Int))) = (m : Int) := by
    unfold vl; rw [hs, PySem.W.KIN.val_back]
  have hl : (Str.ofString (toString (m : Int))).length = (Nat.toDigits 10 m).length := by
    rw [← len_list, hs, List.length_map]
  have l1 := PySem.W.KLn.one_le (n := (m : Int)) h0
  have l2 : (Nat.toDigits 10 m).length ≤ 20 := (Nat.length_toDigits_le_iff (by decide) (by decide)).mpr (by omega)
  have ad := num_digits m
  unfold nof
  rw [if_pos, hv]
  refine ⟨l1, by omega, ?_, ?_, by rw [hv]; exact h1⟩
  · rw [List.all_eq_true]; intro c hc; simpa [dgB] using ad c hc
  · rintro ⟨z1, z2⟩
    have ta := NumText.toDigits_all _ ad
    have dv : NumText.digitsVal (Str.ofString (toString (m : Int))).cps.toList = m := by rw [hs, PySem.W.KIN.val_back]
    rw [dv] at ta
    generalize (Str.ofString (toString (m : Int))).cps.toList = cs at *
    cases cs with
    | nil => simp at z1
    | cons c r =>
      simp at z1
      subst z1
      have : (Nat.toDigits 10 m).length ≤ r.length ∨ (Nat.toDigits 10 m).length = 1 := by
        rw [ta]
        have hd : List.dropWhile (fun x => x == 48) (48 :: r) = List.dropWhile (fun x => x == 48) r := by simp
        rw [hd]
        cases e : List.dropWhile (fun x => x == 48) r with
        | nil => right; rfl
        | cons c' r' =>
          left
          have := (List.dropWhile_suffix (l := r) (fun x => x == 48)).length_le
          rw [e] at this
          simpa using this
      have hl2 : (Nat.toDigits 10 m).length = r.length + 1 := by
        have := congrArg List.length hs
        simp at this
        omega
      omega
/-- a row's text -/
def partT (r : Rw) : Str := match r.2 with
  | none => Str.ofString r.1
  | some v => Str.ofString r.1 ++ Str.ofString " " ++ Str.ofString (toString v)
theorem wds_free : ∀ w ∈ wds, ¬ 32 ∈ (Str.ofString w).cps.toList ∧ ¬ 59 ∈ (Str.ofString w).cps.toList ∧ 1 ≤ (Str.ofString w).length ∧ (Str.ofString w).length ≤ 10 := by
  intro w hw
  simp only [wds, List.mem_cons, List.not_mem_nil, or_false] at hw
  rcases hw with rfl | rfl | rfl | rfl | rfl | rfl | rfl | rfl | rfl | rfl | rfl | rfl | rfl | rfl | rfl | rfl | rfl | rfl | rfl | rfl | rfl | rfl | rfl | rfl | rfl | rfl | rfl | rfl | rfl | rfl | rfl <;> decide +kernel
/-- what is known of a right row -/
theorem rr_cases {r : Rw} {m : Int} (hm : m ≤ 100) (h : rr r m = true) : r.1 ∈ wds ∧ ((r.1 ∉ nbs ∧ r.2 = none) ∨ (r.1 ∈ nbs ∧ ∃ v, r.2 = some v ∧ 0 ≤ v ∧ v < 18446744073709551616)) := by
  obtain ⟨w, x⟩ := r
  unfold rr at h
  simp only [Bool.and_eq_true, decide_eq_true_eq] at h
  refine ⟨h.1, ?_⟩
  have h2 := h.2
  by_cases hn : w ∈ nbs
  · rw [if_pos hn] at h2
    cases x with
    | none => simp at h2
    | some v =>
      refine .inr ⟨hn, v, rfl, ?_⟩
      simp only [ft] at h2
      split at h2
      · simpa using h2
      · split at h2
        · simp at h2; omega
        · split at h2
          · simp at h2; omega
          · simp at h2; omega
  · rw [if_neg hn] at h2
    exact .inl ⟨hn, by simpa using h2⟩
theorem sp_list : (Str.ofString " ").cps.toList = [32] := by decide +kernel
theorem se_list : (Str.ofString "; ").cps.toList = [59, 32] := by decide +kernel
theorem sp_len : (Str.ofString " ").length = 1 := by decide +kernel
theorem se_len : (Str.ofString "; ").length = 2 := by decide +kernel
theorem part_len {r : Rw} {m : Int} (hm : m ≤ 100) (h : rr r m = true) : 1 ≤ (partT r).length ∧ (partT r).length ≤ 2000 := by
  obtain ⟨hw, hx⟩ := rr_cases hm h
  obtain ⟨_, _, l1, l2⟩ := wds_free r.1 hw
  unfold partT
  rcases hx with ⟨_, e⟩ | ⟨_, v, e, v0, v1⟩
  · rw [e]; exact ⟨l1, by show (Str.ofString r.1).length ≤ 2000; omega⟩
  · rw [e]
    have := num_len v (by omega)
    show 1 ≤ (Str.ofString r.1 ++ Str.ofString " " ++ Str.ofString (toString v)).length ∧ (Str.ofString r.1 ++ Str.ofString " " ++ Str.ofString (toString v)).length ≤ 2000
    rw [str_app_len, str_app_len, sp_len]
    omega
theorem app_list (s t : Str) : (s ++ t).cps.toList = s.cps.toList ++ t.cps.toList := by
  show (s.cps ++ t.cps).toList = _
  simp
theorem part_free {r : Rw} {m : Int} (hm : m ≤ 100) (h : rr r m = true) : ¬ 59 ∈ (partT r).cps.toList := by
  obtain ⟨hw, hx⟩ := rr_cases hm h
  obtain ⟨_, f2, _, _⟩ := wds_free r.1 hw
  unfold partT
  rcases hx with ⟨_, e⟩ | ⟨_, v, e, v0, v1⟩
  · rw [e]; exact f2
  · rw [e]
    have := PyProof.Rows.int_text_free' 59 (by omega) v
    show ¬ 59 ∈ (Str.ofString r.1 ++ Str.ofString " " ++ Str.ofString (toString v)).cps.toList
    rw [app_list, app_list, sp_list]
    simp only [List.mem_append, List.mem_singleton, not_or]
    exact ⟨⟨f2, by decide⟩, this⟩
theorem c_lpart (n : Nat) {r : Rw} {m : Int} (hm : m ≤ 100) (hr : rr r m = true) (h : Hm) : callF PR (n + 1) "_law_part" [rwD r] h = some (.ok (.str (partT r)), h) := by
  rw [callF_eq fn_l_part rfl]
  obtain ⟨hw, hx⟩ := rr_cases hm hr
  obtain ⟨_, _, l1, l2⟩ := wds_free r.1 hw
  obtain ⟨w, x⟩ := r
  rcases hx with ⟨_, e⟩ | ⟨_, v, e, v0, v1⟩
  · dsimp only at e; subst e
    simp_arith [F_l_part, rwD, partT]
  · dsimp only at e l1 l2; subst e
    have nl := num_len v (by omega)
    have sl := sp_len
    have vr : -(2 ^ 250) < v ∧ v < 2 ^ 250 := by omega
    have al := str_app_len (Str.ofString w) (Str.ofString " ")
    have bs := bi_str (h := h) vr
    clear vr
    have pw : partT (w, some v) = Str.ofString w ++ Str.ofString " " ++ Str.ofString (toString v) := rfl
    rw [pw]
    generalize Str.ofString (toString v) = tv at nl bs
    simp_arith [-bi_str, F_l_part, rwD, bs]
theorem c_read_row (n : Nat) {r : Rw} {m : Int} (hm : m ≤ 100) (hr : rr r m = true) (h : Hm) : callF PR (n + 2) "read_row" [.str (partT r)] h = some (.ok (rwD r), h) := by
  rw [callF_eq fn_read_row rfl]
  obtain ⟨hw, hx⟩ := rr_cases hm hr
  obtain ⟨f1, _, l1, l2⟩ := wds_free r.1 hw
  have pl := part_len hm hr
  have bp := bm_part (z := partT r) (y := Str.ofString " ") (h := h) ⟨by rw [sp_len]; rfl, by omega⟩
  obtain ⟨w, x⟩ := r
  rcases hx with ⟨hn, e⟩ | ⟨hn, v, e, v0, v1⟩
  · dsimp only at e f1 hn; subst e
    have e1 : Txt.partition (partT (w, none)) (Str.ofString " ") = (Str.ofString w, Str.empty, Str.empty) := TL.partition_none sp_list f1
    rw [e1] at bp
    have cn := c_numbered n w h
    have pw : partT (w, none) = Str.ofString w := rfl
    rw [pw] at bp ⊢
    simp_arith [F_read_row, bp, cn, hn, rwD]
  · dsimp only at e f1 hn; subst e
    have e1 : Txt.partition (partT (w, some v)) (Str.ofString " ") = (Str.ofString w, Str.ofString " ", Str.ofString (toString v)) := TL.partition_app sp_list f1
    rw [e1] at bp
    have cn := c_numbered n w h
    have nl := num_len v (by omega)
    have co := c_number_of n (Str.ofString (toString v)) (by omega) h
    rw [nof_num v v0 v1] at co
    generalize Str.ofString (toString v) = tv at bp co
    simp_arith [F_read_row, bp, cn, hn, rwD, co, oD]
theorem sum_le (ps : List Str) (B : Nat) (h : ∀ p ∈ ps, p.length ≤ B) : (ps.map (·.length)).sum ≤ ps.length * B := by
  induction ps with
  | nil => simp
  | cons p r ih =>
    have := h p (List.mem_cons_self ..)
    have := ih fun q hq => h q (List.mem_cons_of_mem _ hq)
    rw [List.map_cons, List.sum_cons, List.length_cons, Nat.succ_mul]
    omega
section
variable {rs : List Rw} {m : Int}
/-- the text of rows -/
def txt (rs : List Rw) : Str := Txt.join (Str.ofString "; ") (rs.map partT)
theorem join_ok (h : Hm) (a : Nat) (hm : m ≤ 100) (hr : ∀ r ∈ rs, rr r m = true) (hl : rs.length ≤ 60) (e : h.get a = some (.lst ((rs.map partT).map D.str))) : bmD .join (.str (Str.ofString "; ")) [.ref a] h = some (.ok (.str (txt rs)), h) := by
  refine bm_join e ?_
  have := sum_le (rs.map partT) 2000 (fun p hp => by obtain ⟨r, hr', rfl⟩ := List.mem_map.mp hp; exact (part_len hm (hr r hr')).2)
  rw [List.length_map, se_len] at *
  omega
theorem txt_split (hm : m ≤ 100) (hr : ∀ r ∈ rs, rr r m = true) (hn : rs ≠ []) : Txt.split (txt rs) (Str.ofString "; ") = rs.map partT := by
  refine TL.split_join (s := 59) (S := [32]) se_list (by decide +kernel) (by simpa using hn) ?_
  intro p hp
  obtain ⟨r, hr', rfl⟩ := List.mem_map.mp hp
  exact part_free hm (hr r hr')
theorem txt_ne (hm : m ≤ 100) (hr : ∀ r ∈ rs, rr r m = true) (hn : rs ≠ []) : ¬ txt rs = Str.ofString "" := by
  intro z
  have := txt_split hm hr hn
  rw [z, show Txt.split (Str.ofString "") (Str.ofString "; ") = [Str.ofString ""] by decide +kernel] at this
  cases rs with
  | nil => exact hn rfl
  | cons r s =>
    rw [List.map_cons] at this
    injection this with h1 _
    have := (part_len hm (hr r (List.mem_cons_self ..))).1
    rw [← h1] at this
    exact absurd this (by decide +kernel)
theorem txt_len (hm : m ≤ 100) (hr : ∀ r ∈ rs, rr r m = true) (hl : rs.length ≤ 60) : (txt rs).length ≤ 1000000 := by
  have h1 : (txt rs).length ≤ ((rs.map partT).map (·.length)).sum + (rs.map partT).length * (Str.ofString "; ").length := join_le _ _
  have := sum_le (rs.map partT) 2000 (fun p hp => by obtain ⟨r, hr', rfl⟩ := List.mem_map.mp hp; exact (part_len hm (hr r hr')).2)
  rw [se_len] at h1
  have h3 : (rs.map partT).length = rs.length := List.length_map ..
  rw [h3] at h1 this
  have : rs.length * 2000 ≤ 60 * 2000 := Nat.mul_le_mul_right _ hl
  omega
theorem c_read (n : Nat) (h : Hm) (hr : ∀ r ∈ rs, rr r rs.length = true) (hl : rs.length ≤ 60) :
    ∃ g, callF PR (n + 4) "read" [.str (txt rs)] h = some (.ok (.ref h.next), g) ∧ Gro h g ∧ g.get h.next = some (.lst (rs.map rwD)) ∧ h.next < g.next := by
  rw [callF_eq fn_read rfl]
  have hm : (rs.length : Int) ≤ 100 := by omega
  have ra : (decide (rs.length ≤ 60) && rs.all fun r => rr r rs.length) = true := by
    rw [Bool.and_eq_true, decide_eq_true_eq, List.all_eq_true]; exact ⟨hl, hr⟩
  by_cases hn : rs = []
  · subst hn
    have e0 : txt [] = Str.ofString "" := by decide +kernel
    have cr := c_right n h.next [] (h.new (.lst [])) (by simp_arith [])
    rw [ra] at cr
    simp_arith [F_read, e0, cr]
  · have ne := txt_ne hm hr hn
    have sp := txt_split hm hr hn
    have tl := txt_len hm hr hl
    have bs : ∀ g, bmD .split (.str (txt rs)) [.str (Str.ofString "; ")] g = some (.ok (.ref g.next), g.new (.lst ((rs.map partT).map .str))) := fun g => by
      rw [bm_split ⟨by rw [se_len]; rfl, tl⟩, sp]
    have e1 : ((rs.map partT).map D.str) = rs.map fun r => D.str (partT r) := by rw [List.map_map]; rfl
    rw [e1] at bs
    have cr := c_right n h.next rs ((h.new (.lst (rs.map rwD))).new (.lst (rs.map fun r => D.str (partT r)))) (by simp_arith [])
    rw [ra] at cr
    simp_arith [F_read, ne, bs]
    refine rel (fun r => ∃ g, r = some (.ok (.ref h.next), g) ∧ Gro h g ∧ g.get h.next = some (.lst (rs.map rwD)) ∧ h.next < g.next) (fun r => D.str (partT r)) (fun d env g => g = (h.new (.lst (d.map rwD))).new (.lst (rs.map fun r => D.str (partT r))) ∧ ∃ v2, env = [some (.str (txt rs)), some (.ref h.next), v2]) ⟨rfl, _, rfl⟩ (fun d env g i => by rw [i.1]; simp_arith []) ?_ ?_
    · rintro d r rest env g hd ⟨rfl, v2, rfl⟩
      have rrow := fun g => c_read_row (n + 1) hm (hr r (by rw [hd]; simp)) g
      have dl : d.length ≤ 60 := by have := congrArg List.length hd; simp only [List.length_append, List.length_cons] at this; omega
      refine ⟨_, rfl, [some (.str (txt rs)), some (.ref h.next), some (.str (partT r))], _, ?_, rfl, _, rfl⟩
      simp_arith [rrow]
    · rintro env g ⟨rfl, v2, rfl⟩
      simp_arith [cr]
      all_goals (try omega)
end
theorem c_alike (n : Nat) (r : Rw) (h : Hm) : callF PR (n + 1) "_law_alike" [rwD r, rwD r] h = some (.ok (.bl true), h) := by
  rw [callF_eq fn_l_alike rfl]
  obtain ⟨w, x⟩ := r
  have r1 : List.range 1 = [0] := rfl
  have r2 : List.range 2 = [0, 1] := rfl
  cases x with
  | none => simp_arith [F_l_alike, rwD, r1, forL_cons, forL_nil]
  | some v => simp_arith [F_l_alike, rwD, r2, forL_cons, forL_nil]
theorem row_at (rs : List Rw) (k : Nat) (hk : k < rs.length) : atD (rs.map rwD) (k : Int) = some (rwD rs[k]) := by
  rw [atD_nat, List.getElem?_map, List.getElem?_eq_getElem hk]; rfl
theorem c_rows (n a b : Nat) (rs : List Rw) (h : Hm) (hl : rs.length ≤ 100) (ea : h.get a = some (.lst (rs.map rwD))) (eb : h.get b = some (.lst (rs.map rwD))) : callF PR (n + 2) "_law_rows" [.ref a, .ref b] h = some (.ok (.bl true), h) := by
  rw [callF_eq fn_l_rows rfl]
  simp_arith [F_l_rows, ea, eb]
  refine still (fun r => r = some (.ok (.bl true), h)) (fun env => ∃ v2, env = [some (.ref a), some (.ref b), v2]) ⟨_, rfl⟩ (stays_nil _) ?_ (fun env ⟨v2, he⟩ => by subst he; simp_arith [])
  rintro x hx env ⟨v2, rfl⟩
  obtain ⟨k, hk, rfl⟩ := List.mem_map.mp hx
  rw [List.mem_range] at hk
  have a1 := row_at rs k hk
  simp_arith [ea, eb, a1, c_alike]

/-! tries run by simp -/
set_option checkBinderAnnotations false in
def tryC (b : Option Bool) [r : Env → Hm → Out] (k : String) (env : Env) (h : Hm) : Out := match b with
  | some true => (match r env h with
    | some (.ex _, _, _) => none
    | o => o)
  | some false => some (.ex k, env, h)
  | none => none
set_option checkBinderAnnotations false in
def tryS (o : Out) (c : String) [s : Env → Hm → Out] : Out := match o with
  | some (.ex k, env, h) => @tryC (PR.exm k c) s k env h
  | o => o
@[simp] theorem tryS_nx {c : String} {s : Env → Hm → Out} {env : Env} {h : Hm} : @tryS (some (.nx, env, h)) c s = some (.nx, env, h) := id rfl
@[simp] theorem tryS_rt {c : String} {s : Env → Hm → Out} {d : D} {env : Env} {h : Hm} : @tryS (some (.rt d, env, h)) c s = some (.rt d, env, h) := id rfl
@[simp] theorem tryS_ex {c : String} {s : Env → Hm → Out} {k : String} {env : Env} {h : Hm} : @tryS (some (.ex k, env, h)) c s = @tryC (PR.exm k c) s k env h := id rfl
def noEx (o : Out) : Out := match o with
  | some (.ex _, _, _) => none
  | o => o
@[simp] theorem noEx_nx {env : Env} {h : Hm} : noEx (some (.nx, env, h)) = some (.nx, env, h) := id rfl
@[simp] theorem noEx_rt {d : D} {env : Env} {h : Hm} : noEx (some (.rt d, env, h)) = some (.rt d, env, h) := id rfl
@[simp] theorem tryC_t {r : Env → Hm → Out} {k : String} {env : Env} {h : Hm} : @tryC (some true) r k env h = noEx (r env h) := id rfl
@[simp] theorem tryC_f {r : Env → Hm → Out} {k : String} {env : Env} {h : Hm} : @tryC (some false) r k env h = some (.ex k, env, h) := id rfl
theorem ex_try0 {cl : Cl} {b s : Z.S} {c : String} {env : Env} {h : Hm} : ex PR cl (.try_ b c none s) env h = @tryS (ex PR cl b env h) c fun e g => ex PR cl s e g := by
  rw [ex]
  unfold tryS tryC
  cases q : ex PR cl b env h with
  | none => rfl
  | some o =>
    obtain ⟨f, e, g⟩ := o
    cases f with
    | nx => rfl
    | rt d => rfl
    | ex k =>
      first
        | rfl
        | (dsimp only; done)
        | (dsimp only; rcases PR.exm k c with _ | _ | _ <;> rfl)

--CUT
/-! k09: what is read of any part -/
def RR (z : Str) : Option Rw → Prop
  | none => ∀ n h, callF PR (n + 2) "read_row" [.str z] h = some (.error "NoCode", h)
  | some r => ∀ n h, callF PR (n + 2) "read_row" [.str z] h = some (.ok (rwD r), h)
theorem rr_bare0 {s w : String} {x y : Str} (hl : (Str.ofString s).length ≤ 2000) (hp : Txt.partition (Str.ofString s) (Str.ofString " ") = (Str.ofString w, x, y)) (hw : w ∉ nbs) : RR (Str.ofString s) (some (s, none)) := by
  intro n h
  rw [callF_eq fn_read_row rfl]
  have bp := bm_part (z := Str.ofString s) (y := Str.ofString " ") (h := h) ⟨by rw [sp_len]; rfl, by omega⟩
  rw [hp] at bp
  have cn := c_numbered n w h
  simp_arith [F_read_row, bp, cn, hw, rwD]
theorem rr_bad {z : Str} {w : String} {x y : Str} (hl : z.length ≤ 2000) (hy : y.length ≤ 2000) (hp : Txt.partition z (Str.ofString " ") = (Str.ofString w, x, y)) (hw : w ∈ nbs) (hn : nof y = none) : RR z none := by
  intro n h
  rw [callF_eq fn_read_row rfl]
  have bp := bm_part (z := z) (y := Str.ofString " ") (h := h) ⟨by rw [sp_len]; rfl, by omega⟩
  rw [hp] at bp
  have cn := c_numbered n w h
  have co := c_number_of n y (by omega) h
  rw [hn] at co
  simp_arith [F_read_row, bp, cn, hw, co, oD]
theorem rr_num {z : Str} {w : String} {x y : Str} {v : Int} (hl : z.length ≤ 2000) (hy : y.length ≤ 2000) (hp : Txt.partition z (Str.ofString " ") = (Str.ofString w, x, y)) (hw : w ∈ nbs) (hn : nof y = some v) : RR z (some (w, some v)) := by
  intro n h
  rw [callF_eq fn_read_row rfl]
  have bp := bm_part (z := z) (y := Str.ofString " ") (h := h) ⟨by rw [sp_len]; rfl, by omega⟩
  rw [hp] at bp
  have cn := c_numbered n w h
  have co := c_number_of n y (by omega) h
  rw [hn] at co
  simp_arith [F_read_row, bp, cn, hw, co, oD, rwD]
/-- the separator begins nowhere in it, whatever comes behind -/
def NoSep (p : List Nat) : Prop := (∀ rest i, i < p.length → TL.pre [59, 32] ((p ++ ([59, 32] ++ rest)).drop i) = false) ∧ ∀ i, i < p.length → TL.pre [59, 32] (p.drop i) = false
theorem NoSep.free {p : List Nat} (h : 59 ∉ p) : NoSep p := ⟨fun rest => TL.free_of h, fun i hi => by
  have := TL.free_of (S := [32]) (q := []) h i hi
  rwa [List.append_nil] at this⟩
theorem spl_parts : ∀ {ps : List (List Nat)}, ps ≠ [] → (∀ p ∈ ps, NoSep p) → TL.spl [59, 32] 0 [] (TL.joinL [59, 32] ps) = ps
  | [], h, _ => absurd rfl h
  | [p], _, hp => by
    show TL.spl [59, 32] 0 [] p = [p]
    rw [TL.spl_last (hp p (List.mem_singleton.mpr rfl)).2, List.nil_append]
  | p :: q :: r, _, hp => by
    show TL.spl [59, 32] 0 [] (p ++ ([59, 32] ++ TL.joinL [59, 32] (q :: r))) = p :: q :: r
    rw [TL.spl_part (by simp) ((hp p (List.mem_cons_self ..)).1 _), List.nil_append, spl_parts (by simp) fun z hz => hp z (List.mem_cons_of_mem _ hz)]
theorem split_parts {ps : List Str} (hne : ps ≠ []) (hp : ∀ p ∈ ps, NoSep p.cps.toList) : Txt.split (Txt.join (Str.ofString "; ") ps) (Str.ofString "; ") = ps := by
  refine TL.map_tl_inj ?_
  rw [TL.split_spl _ _ (by show (Str.ofString "; ").cps.toList ≠ []; rw [se_list]; simp) (TL.kind_ok (by decide +kernel)), TL.join_eq, TL.tl_join]
  rw [show TL.tl (Str.ofString "; ") = [59, 32] from se_list]
  refine spl_parts (fun e => hne (List.map_eq_nil_iff.mp e)) fun p h => ?_
  obtain ⟨z, hz, rfl⟩ := List.mem_map.mp h
  exact hp z hz
section
variable {α : Type} {fb : Env → Hm → Out} {g : Tg} {gd : List (Nat × O)}
theorem forL_app : ∀ {xs ys : List D} {env env1 : Env} {h h1 : Hm}, forL fb g gd xs env h = some (.nx, env1, h1) → forL fb g gd (xs ++ ys) env h = forL fb g gd ys env1 h1 := by
  intro xs
  induction xs with
  | nil =>
    intro ys env env1 h h1 e
    rw [forL] at e
    split at e
    · injection e with e; injection e with _ e; injection e with e1 e2
      subst e1 e2; rfl
    · cases e
  | cons x xs ih =>
    intro ys env env1 h h1 e
    rw [forL] at e
    rw [List.cons_append, forL]
    split at e
    · rename_i st
      rw [if_pos st]
      cases q : asgT g x env with
      | none => rw [q] at e; cases e
      | some env2 =>
        rw [q] at e
        dsimp only at e ⊢
        cases q2 : fb env2 h with
        | none => rw [q2] at e; cases e
        | some o =>
          obtain ⟨f, env3, h3⟩ := o
          rw [q2] at e
          cases f with
          | nx => exact ih e
          | rt d => simp at e
          | ex k => simp at e
    · cases e
end
abbrev RdB : Z.S := F_read.body
def ERR (h : Hm) (r : Res D) : Prop := ∃ g, r = some (.error "NoCode", g) ∧ Gro h g
/-- all are read, but the rows are no right program -/
theorem c_read_no1 (n : Nat) (h : Hm) (t : Str) (qs : List (Str × Rw)) (tn : ¬ t = Str.ofString "") (tl : t.length ≤ 1000000) (ts : Txt.split t (Str.ofString "; ") = qs.map (·.1)) (hq : ∀ q ∈ qs, RR q.1 (some q.2)) (ql : qs.length ≤ 1000) (bad : (decide ((qs.map (·.2)).length ≤ 60) && (qs.map (·.2)).all fun r => rr r (qs.map (·.2)).length) = false) : ERR h (callF PR (n + 4) "read" [.str t] h) := by
  rw [callF_eq fn_read rfl]
  obtain ⟨R, hR⟩ : ∃ R, ERR h = R := ⟨_, rfl⟩
  rw [hR]
  have bs : ∀ g, bmD .split (.str t) [.str (Str.ofString "; ")] g = some (.ok (.ref g.next), g.new (.lst (qs.map fun q => D.str q.1))) := fun g => by
    rw [bm_split ⟨by rw [se_len]; rfl, tl⟩, ts, List.map_map]; rfl
  have l1 : (qs.map fun q => D.str q.1).length = qs.length := List.length_map ..
  obtain ⟨rs, hrs⟩ : ∃ rs, qs.map (·.2) = rs := ⟨_, rfl⟩
  rw [hrs] at bad
  have cr := c_right n h.next rs ((h.new (.lst (rs.map rwD))).new (.lst (qs.map fun q => D.str q.1))) (by simp_arith [])
  rw [bad] at cr
  simp_arith [F_read, tn, bs]
  refine rel R (fun q : Str × Rw => D.str q.1) (fun d env g => g = (h.new (.lst (d.map fun q => rwD q.2))).new (.lst (qs.map fun q => D.str q.1)) ∧ ∃ v2, env = [some (.str t), some (.ref h.next), v2]) ⟨rfl, _, rfl⟩ (fun d env g i => by rw [i.1]; simp_arith []) ?_ ?_
  · rintro d q rest env g hd ⟨rfl, v2, rfl⟩
    have rrow := fun g => hq q (by rw [hd]; simp) (n + 1) g
    have dl : d.length ≤ 1000 := by have := congrArg List.length hd; simp only [List.length_append, List.length_cons] at this; omega
    refine ⟨_, rfl, [some (.str t), some (.ref h.next), some (.str q.1)], _, ?_, rfl, _, rfl⟩
    simp_arith [rrow]
  · rintro env g ⟨rfl, v2, rfl⟩
    have e2 : (qs.map fun q => rwD q.2) = rs.map rwD := by rw [← hrs, List.map_map]; rfl
    rw [e2]
    simp_arith [cr]
    rw [← hR]
    exact ⟨_, rfl, Gro.new.trans .new⟩
/-- one is refused as it is read -/
theorem c_read_no2 (n : Nat) (h : Hm) (t : Str) (qs : List (Str × Rw)) (z : Str) (zs : List Str) (tn : ¬ t = Str.ofString "") (tl : t.length ≤ 1000000) (ts : Txt.split t (Str.ofString "; ") = qs.map (·.1) ++ z :: zs) (hq : ∀ q ∈ qs, RR q.1 (some q.2)) (ql : qs.length ≤ 1000) (hz : RR z none) : ERR h (callF PR (n + 4) "read" [.str t] h) := by
  rw [callF_eq fn_read rfl]
  obtain ⟨R, hR⟩ : ∃ R, ERR h = R := ⟨_, rfl⟩
  rw [hR]
  obtain ⟨PD, hPD⟩ : ∃ d, (qs.map fun q => D.str q.1) ++ D.str z :: zs.map D.str = d := ⟨_, rfl⟩
  have bs : ∀ g, bmD .split (.str t) [.str (Str.ofString "; ")] g = some (.ok (.ref g.next), g.new (.lst PD)) := fun g => by
    rw [bm_split ⟨by rw [se_len]; rfl, tl⟩, ts, List.map_append, List.map_map, List.map_cons, ← hPD]; rfl
  simp_arith [F_read, tn, bs]
  have go := forL_rel (g := .name 2) (gd := [(h.next + 1, O.lst PD)]) (fb := fun e1 h2 => ex PR (callF PR (n + 3)) (.drop (.bm .append (.var 1) (.cons (.call "read_row" (.cons (.var 2) (.nil)) []) (.nil)))) e1 h2) (env := [some (.str t), some (.ref h.next), none]) (h := (h.new (.lst [])).new (.lst PD)) (cs := qs) (fun q : Str × Rw => D.str q.1) (fun d env g => g = (h.new (.lst (d.map fun q => rwD q.2))).new (.lst PD) ∧ ∃ v2, env = [some (.str t), some (.ref h.next), v2]) ⟨rfl, _, rfl⟩ (fun d env g i => by rw [i.1]; simp_arith []) ?_
  · obtain ⟨env1, g1, e1, rfl, v2, rfl⟩ := go
    have e2 := forL_app (ys := D.str z :: zs.map D.str) e1
    rw [hPD] at e2
    have hz := hz (n + 1) ((h.new (.lst (qs.map fun q => rwD q.2))).new (.lst PD))
    rw [forL_cons (by simp_arith [])] at e2
    simp_arith [hz] at e2
    simp_arith [e2]
    rw [← hR]
    exact ⟨_, rfl, Gro.new.trans .new⟩
  · rintro d q rest env g hd ⟨rfl, v2, rfl⟩
    have rrow := fun g => hq q (by rw [hd]; simp) (n + 1) g
    have dl : d.length ≤ 1000 := by have := congrArg List.length hd; simp only [List.length_append, List.length_cons] at this; omega
    refine ⟨_, rfl, [some (.str t), some (.ref h.next), some (.str q.1)], _, ?_, rfl, _, rfl⟩
    simp_arith [rrow]
@[simp] theorem c_isN_xob (k : String) {h : Hm} : cmpD .isN (.xob k) .non h = some false := id rfl
theorem c_lother (n : Nat) (h : Hm) : callF PR (n + 1) "_law_other" [.xob "NoCode"] h = some (.ok (.bl false), h) := by
  rw [callF_eq fn_l_other rfl]
  simp_arith [F_l_other]
theorem c_lrefused (n : Nat) (h g : Hm) (t : Str) (e : callF PR (n + 1) "read" [.str t] h = some (.error "NoCode", g)) : callF PR (n + 2) "_law_refused" [.str t] h = some (.ok (.bl true), g) := by
  rw [callF_eq fn_l_refused rfl]
  have co := c_lother n g
  have q : ex PR (callF PR (n + 1)) (.tryK (.drop (.call "read" (.cons (.var 0) (.nil)) [])) "NoCode" 2 1) [some (.str t), some .non, none] h = some (.nx, [some (.str t), some (.xob "NoCode"), none], g) := by
    rw [ex_keep_ex (k := "NoCode") (env2 := [some (.str t), some .non, none]) (h2 := g) (by simp_arith [e]) (by simp_arith []) (by simp) (by decide)]
    rfl
  simp_arith [F_l_refused, q, co]
theorem c_lrefused_any (n : Nat) (h g : Hm) (t : Str) (e : callF PR (n + 1) "read" [.str t] h = some (.error "NoCode", g)) : callF PR (n + 2) "_law_refused_by_any" [.str t] h = some (.ok (.bl true), g) := by
  rw [callF_eq fn_l_refused_by_any rfl]
  simp_arith [F_l_refused_by_any, ex_try0, e]

--CUT
/-! k09: parts that are no right row -/
structure OddT (z : Str) (m : Int) : Prop where
  l : z.length ≤ 2000
  s : NoSep z.cps.toList
  r : RR z none ∨ ∃ r, RR z (some r) ∧ rr r m = false
  e : z.length = 0 → 2 ≤ m
def OdD (m : Int) (x : D) : Prop := ∃ z, x = .str z ∧ OddT z m
def chkB (s w : String) : Bool := decide ((Str.ofString s).length ≤ 2000) && decide (1 ≤ (Str.ofString s).length) && decide ((Txt.partition (Str.ofString s) (Str.ofString " ")).1 = Str.ofString w) && decide (w ∉ nbs) && decide (s ∉ wds)
def chkN (s w : String) : Bool := decide ((Str.ofString s).length ≤ 2000) && decide (1 ≤ (Str.ofString s).length) && decide ((Txt.partition (Str.ofString s) (Str.ofString " ")).1 = Str.ofString w) && decide (w ∈ nbs) && decide ((Txt.partition (Str.ofString s) (Str.ofString " ")).2.2.length ≤ 2000) && decide (nof (Txt.partition (Str.ofString s) (Str.ofString " ")).2.2 = none)
def chkV (s w : String) (v : Int) : Bool := decide ((Str.ofString s).length ≤ 2000) && decide (1 ≤ (Str.ofString s).length) && decide ((Txt.partition (Str.ofString s) (Str.ofString " ")).1 = Str.ofString w) && decide (w ∈ nbs) && decide ((Txt.partition (Str.ofString s) (Str.ofString " ")).2.2.length ≤ 2000) && decide (nof (Txt.partition (Str.ofString s) (Str.ofString " ")).2.2 = some v)
theorem odd_bare (s w : String) (m : Int) (ns : NoSep (Str.ofString s).cps.toList) (h : chkB s w = true) : OddT (Str.ofString s) m := by
  simp only [chkB, Bool.and_eq_true, decide_eq_true_eq] at h
  obtain ⟨⟨⟨⟨h1, h2⟩, h3⟩, h4⟩, h5⟩ := h
  refine ⟨h1, ns, .inr ⟨(s, none), rr_bare0 (w := w) (x := (Txt.partition (Str.ofString s) (Str.ofString " ")).2.1) (y := (Txt.partition (Str.ofString s) (Str.ofString " ")).2.2) h1 (by rw [← h3]) h4, ?_⟩, fun z => by omega⟩
  simp [rr, h5]
theorem odd_bad (s w : String) (m : Int) (ns : NoSep (Str.ofString s).cps.toList) (h : chkN s w = true) : OddT (Str.ofString s) m := by
  simp only [chkN, Bool.and_eq_true, decide_eq_true_eq] at h
  obtain ⟨⟨⟨⟨⟨h1, h2⟩, h3⟩, h4⟩, h5⟩, h6⟩ := h
  exact ⟨h1, ns, .inl (rr_bad (w := w) (x := (Txt.partition (Str.ofString s) (Str.ofString " ")).2.1) (y := (Txt.partition (Str.ofString s) (Str.ofString " ")).2.2) h1 h5 (by rw [← h3]) h4 h6), fun z => by omega⟩
theorem odd_val (s w : String) (v : Int) (m : Int) (ns : NoSep (Str.ofString s).cps.toList) (h : chkV s w v = true) (hf : ∀ m, ft w v m = false) : OddT (Str.ofString s) m := by
  simp only [chkV, Bool.and_eq_true, decide_eq_true_eq] at h
  obtain ⟨⟨⟨⟨⟨h1, h2⟩, h3⟩, h4⟩, h5⟩, h6⟩ := h
  refine ⟨h1, ns, .inr ⟨(w, some v), rr_num (w := w) (x := (Txt.partition (Str.ofString s) (Str.ofString " ")).2.1) (y := (Txt.partition (Str.ofString s) (Str.ofString " ")).2.2) h1 h5 (by rw [← h3]) h4 h6, ?_⟩, fun z => by omega⟩
  simp [rr, h4, hf]
theorem NoSep.lit {p : List Nat} (h : ((List.range p.length).all fun i => (p.getD i 0 != 59 || (decide (i + 1 < p.length) && p.getD (i + 1) 0 != 32) || i + 1 == p.length)) = true) : NoSep p := by
  rw [List.all_eq_true] at h
  have key : ∀ (q : List Nat), q.head? ≠ some 32 → ∀ i, i < p.length → TL.pre [59, 32] ((p ++ q).drop i) = false := by
    intro q hq i hi
    have h := h i (List.mem_range.mpr hi)
    simp only [Bool.or_eq_true, Bool.and_eq_true, bne_iff_ne, decide_eq_true_eq, beq_iff_eq, ne_eq] at h
    have hlt : i < (p ++ q).length := by rw [List.length_append]; omega
    have e : (p ++ q).drop i = (p ++ q)[i] :: (p ++ q).drop (i + 1) := List.drop_eq_getElem_cons hlt
    have e1 : (p ++ q)[i] = p[i] := List.getElem_append_left hi
    have e2 : p.getD i 0 = p[i] := by rw [List.getD_eq_getElem?_getD, List.getElem?_eq_getElem hi]; rfl
    rw [e2] at h
    rw [e, e1]
    by_cases z : p[i] = 59
    · rw [z]
      have nx : (p ++ q)[i + 1]? ≠ some 32 := by
        rcases h with (h | ⟨h1, h2⟩) | h
        · exact absurd z h
        · rw [List.getElem?_append_left h1, List.getElem?_eq_getElem h1]
          rw [List.getD_eq_getElem?_getD, List.getElem?_eq_getElem h1] at h2
          intro y; injection y with y; exact h2 y
        · rw [List.getElem?_append_right (by omega), show i + 1 - p.length = 0 by omega]
          rw [List.head?_eq_getElem?] at hq
          exact hq
      rw [← List.getElem?_drop (i := i + 1) (j := 0)] at nx
      cases q2 : (p ++ q).drop (i + 1) with
      | nil => rfl
      | cons c r =>
        rw [q2] at nx
        have nc : c ≠ 32 := fun y => nx (by rw [y]; rfl)
        show ([59, c] == [59, 32]) = false
        rw [beq_eq_false_iff_ne]
        intro y; injection y with _ y; injection y with y _; exact nc y
    · exact TL.pre_of_head _ _ z
  refine ⟨fun rest i hi => key _ (by simp) i hi, fun i hi => ?_⟩
  have := key [] (by simp) i hi
  rwa [List.append_nil] at this
theorem ns_a : NoSep (Str.ofString "copy 1;").cps.toList := .lit (by decide +kernel)
theorem ns_b : NoSep (Str.ofString "add;drop").cps.toList := .lit (by decide +kernel)
theorem ns_c : NoSep (Str.ofString "push 1;add").cps.toList := .lit (by decide +kernel)
theorem nof_big (v : Int) (hv : 18446744073709551616 ≤ v) : nof (Str.ofString (toString v)) = none := by
  obtain ⟨m, rfl⟩ := Int.eq_ofNat_of_zero_le (by omega : 0 ≤ v)
  have hs := PySem.W.KIN.signs_num m
  have e : vl (Str.ofString (toString (m : Int))) = (m : Int) := by
    unfold vl; rw [hs, PySem.W.KIN.val_back]
  unfold nof
  rw [if_neg]
  rintro ⟨_, _, _, _, z⟩
  rw [e] at z
  omega
theorem nos_num (w : String) (v : Int) (hw : w ∈ wds) : NoSep (Str.ofString w ++ Str.ofString " " ++ Str.ofString (toString v)).cps.toList := by
  refine .free ?_
  rw [app_list, app_list, sp_list]
  simp only [List.mem_append, List.mem_singleton, not_or]
  exact ⟨⟨(wds_free w hw).2.1, by decide⟩, PyProof.Rows.int_text_free' 59 (by omega) v⟩
theorem part_num (w : String) (y : Str) (hw : w ∈ wds) : Txt.partition (Str.ofString w ++ Str.ofString " " ++ y) (Str.ofString " ") = (Str.ofString w, Str.ofString " ", y) := TL.partition_app sp_list (wds_free w hw).1
theorem odd_of (w : String) (v m : Int) (hw : w ∈ wds) (hb : w ∈ nbs) (v0 : 0 ≤ v) (v1 : v < 2 ^ 120) (hf : v < 18446744073709551616 → ft w v m = false) : OddT (Str.ofString w ++ Str.ofString " " ++ Str.ofString (toString v)) m := by
  have nl := num_len v (by omega)
  obtain ⟨_, _, l1, l2⟩ := wds_free w hw
  have ll : (Str.ofString w ++ Str.ofString " " ++ Str.ofString (toString v)).length = (Str.ofString w).length + 1 + (Str.ofString (toString v)).length := by rw [str_app_len, str_app_len, sp_len]
  refine ⟨by omega, nos_num w v hw, ?_, fun z => by omega⟩
  by_cases hv : v < 18446744073709551616
  · exact .inr ⟨(w, some v), rr_num (by omega) (by omega) (part_num w _ hw) hb (nof_num v v0 hv), by simp [rr, hb, hf hv]⟩
  · exact .inl (rr_bad (by omega) (by omega) (part_num w _ hw) hb (nof_big v (by omega)))
theorem odd_jump (m v : Int) (w : String) (e : Str) (he : e = Str.ofString w ++ Str.ofString " ") (hw : w = "jump" ∨ w = "jumpif") (h1 : m < v) (h0 : 0 ≤ m) (h2 : v < 2 ^ 120) : OddT (e ++ Str.ofString (toString v)) m := by
  rw [he]
  rcases hw with rfl | rfl
  · exact odd_of "jump" v m (by decide) (by decide) (by omega) h2 fun _ => by simp [ft]; omega
  · exact odd_of "jumpif" v m (by decide) (by decide) (by omega) h2 fun _ => by simp [ft]; omega
theorem odd_push (m v : Int) (h1 : 18446744073709551616 ≤ v) (h2 : v < 2 ^ 120) : OddT (Str.ofString "push " ++ Str.ofString (toString v)) m := by
  rw [show Str.ofString "push " = Str.ofString "push" ++ Str.ofString " " by decide +kernel]
  exact odd_of "push" v m (by decide) (by decide) (by omega) h2 fun _ => by omega
theorem odd_two (m : Int) (w o : String) (hw : w ∈ nbs) (h : (decide ((Str.ofString o).length ≤ 10) && decide (59 ∉ (Str.ofString o).cps.toList) && decide (nof (Str.ofString o) = none)) = true) : OddT (Str.ofString w ++ Str.ofString " " ++ Str.ofString o) m := by
  simp only [Bool.and_eq_true, decide_eq_true_eq] at h
  obtain ⟨⟨h1, h2⟩, h3⟩ := h
  have hw2 : w ∈ wds := by
    simp only [nbs, List.mem_cons, List.not_mem_nil, or_false] at hw
    rcases hw with rfl | rfl | rfl | rfl | rfl <;> decide
  obtain ⟨_, f2, l1, l2⟩ := wds_free w hw2
  have ll : (Str.ofString w ++ Str.ofString " " ++ Str.ofString o).length = (Str.ofString w).length + 1 + (Str.ofString o).length := by rw [str_app_len, str_app_len, sp_len]
  refine ⟨by omega, .free ?_, .inl (rr_bad (by omega) (by omega) (part_num w _ hw2) hw h3), fun z => by omega⟩
  rw [app_list, app_list, sp_list]
  simp only [List.mem_append, List.mem_singleton, not_or]
  exact ⟨⟨f2, by decide⟩, h2⟩
theorem odds1 (m : Int) (hm : 1 ≤ m ∧ m ≤ 60) : ∀ x ∈ [D.str (Str.ofString " "), D.str (Str.ofString "push"), D.str (Str.ofString "push "), D.str (Str.ofString "push 01"), D.str (Str.ofString "push  1"), D.str (Str.ofString "push 1 "), D.str (Str.ofString " push 1"), D.str (Str.ofString "push -1"), D.str (Str.ofString "push +1"), D.str (Str.ofString "push 00")], OdD m x := by
  simp only [List.forall_mem_cons]
  exact ⟨⟨_, rfl, odd_bare " " "" m (.free (by decide +kernel)) (by decide +kernel)⟩,
    ⟨_, rfl, odd_bad "push" "push" m (.free (by decide +kernel)) (by decide +kernel)⟩,
    ⟨_, rfl, odd_bad "push " "push" m (.free (by decide +kernel)) (by decide +kernel)⟩,
    ⟨_, rfl, odd_bad "push 01" "push" m (.free (by decide +kernel)) (by decide +kernel)⟩,
    ⟨_, rfl, odd_bad "push  1" "push" m (.free (by decide +kernel)) (by decide +kernel)⟩,
    ⟨_, rfl, odd_bad "push 1 " "push" m (.free (by decide +kernel)) (by decide +kernel)⟩,
    ⟨_, rfl, odd_bare " push 1" "" m (.free (by decide +kernel)) (by decide +kernel)⟩,
    ⟨_, rfl, odd_bad "push -1" "push" m (.free (by decide +kernel)) (by decide +kernel)⟩,
    ⟨_, rfl, odd_bad "push +1" "push" m (.free (by decide +kernel)) (by decide +kernel)⟩,
    ⟨_, rfl, odd_bad "push 00" "push" m (.free (by decide +kernel)) (by decide +kernel)⟩, fun _ h => by cases h⟩
theorem odds2 (m : Int) (hm : 1 ≤ m ∧ m ≤ 60) : ∀ x ∈ [D.str (Str.ofString "push 18446744073709551616"), D.str (Str.ofString "push 99999999999999999999"), D.str (Str.ofString "push 100000000000000000000")], OdD m x := by
  simp only [List.forall_mem_cons]
  exact ⟨⟨_, rfl, odd_bad "push 18446744073709551616" "push" m (.free (by decide +kernel)) (by decide +kernel)⟩,
    ⟨_, rfl, odd_bad "push 99999999999999999999" "push" m (.free (by decide +kernel)) (by decide +kernel)⟩,
    ⟨_, rfl, odd_bad "push 100000000000000000000" "push" m (.free (by decide +kernel)) (by decide +kernel)⟩, fun _ h => by cases h⟩
theorem odds3 (m : Int) (hm : 1 ≤ m ∧ m ≤ 60) : ∀ x ∈ [D.str (Str.ofString "copy 16"), D.str (Str.ofString "copy"), D.str (Str.ofString "swap 0"), D.str (Str.ofString "swap 16"), D.str (Str.ofString "swap 1a"), D.str (Str.ofString "drop 1"), D.str (Str.ofString "drop "), D.str (Str.ofString " add"), D.str (Str.ofString "Add"), D.str (Str.ofString "ADD")], OdD m x := by
  simp only [List.forall_mem_cons]
  exact ⟨⟨_, rfl, odd_val "copy 16" "copy" 16 m (.free (by decide +kernel)) (by decide +kernel) (fun m => by simp [ft])⟩,
    ⟨_, rfl, odd_bad "copy" "copy" m (.free (by decide +kernel)) (by decide +kernel)⟩,
    ⟨_, rfl, odd_val "swap 0" "swap" 0 m (.free (by decide +kernel)) (by decide +kernel) (fun m => by simp [ft])⟩,
    ⟨_, rfl, odd_val "swap 16" "swap" 16 m (.free (by decide +kernel)) (by decide +kernel) (fun m => by simp [ft])⟩,
    ⟨_, rfl, odd_bad "swap 1a" "swap" m (.free (by decide +kernel)) (by decide +kernel)⟩,
    ⟨_, rfl, odd_bare "drop 1" "drop" m (.free (by decide +kernel)) (by decide +kernel)⟩,
    ⟨_, rfl, odd_bare "drop " "drop" m (.free (by decide +kernel)) (by decide +kernel)⟩,
    ⟨_, rfl, odd_bare " add" "" m (.free (by decide +kernel)) (by decide +kernel)⟩,
    ⟨_, rfl, odd_bare "Add" "Add" m (.free (by decide +kernel)) (by decide +kernel)⟩,
    ⟨_, rfl, odd_bare "ADD" "ADD" m (.free (by decide +kernel)) (by decide +kernel)⟩, fun _ h => by cases h⟩
theorem odds4 (m : Int) (hm : 1 ≤ m ∧ m ≤ 60) : ∀ x ∈ [D.str (Str.ofString "jumpif"), D.str (Str.ofString "jump x"), D.str (Str.ofString "jump " ++ Str.ofString (toString (m + 1))), .str (Str.ofString "jumpif " ++ Str.ofString (toString (m + 60))), D.str (Str.ofString "jumpif1"), D.str (Str.ofString "copy 1;")], OdD m x := by
  simp only [List.forall_mem_cons]
  exact ⟨⟨_, rfl, odd_bad "jumpif" "jumpif" m (.free (by decide +kernel)) (by decide +kernel)⟩,
    ⟨_, rfl, odd_bad "jump x" "jump" m (.free (by decide +kernel)) (by decide +kernel)⟩,
    ⟨_, rfl, odd_jump m (m + 1) "jump" _ (by decide +kernel) (.inl rfl) (by omega) (by omega) (by omega)⟩,
    ⟨_, rfl, odd_jump m (m + 60) "jumpif" _ (by decide +kernel) (.inr rfl) (by omega) (by omega) (by omega)⟩,
    ⟨_, rfl, odd_bare "jumpif1" "jumpif1" m (.free (by decide +kernel)) (by decide +kernel)⟩,
    ⟨_, rfl, odd_bad "copy 1;" "copy" m ns_a (by decide +kernel)⟩, fun _ h => by cases h⟩
theorem odds5 (m : Int) (hm : 1 ≤ m ∧ m ≤ 60) : ∀ x ∈ [D.str (Str.ofString "add;drop"), D.str (Str.ofString "push 1;add"), D.str (Str.ofString "push 1,"), D.str (Str.ofString "7"), D.str (Str.ofString "push push"), D.str (Str.ofString "push 1 2"), D.str (Str.ofString "none"), D.str (Str.ofString "push1"), D.str (Str.ofString "give 0")], OdD m x := by
  simp only [List.forall_mem_cons]
  exact ⟨⟨_, rfl, odd_bare "add;drop" "add;drop" m ns_b (by decide +kernel)⟩,
    ⟨_, rfl, odd_bad "push 1;add" "push" m ns_c (by decide +kernel)⟩,
    ⟨_, rfl, odd_bad "push 1," "push" m (.free (by decide +kernel)) (by decide +kernel)⟩,
    ⟨_, rfl, odd_bare "7" "7" m (.free (by decide +kernel)) (by decide +kernel)⟩,
    ⟨_, rfl, odd_bad "push push" "push" m (.free (by decide +kernel)) (by decide +kernel)⟩,
    ⟨_, rfl, odd_bad "push 1 2" "push" m (.free (by decide +kernel)) (by decide +kernel)⟩,
    ⟨_, rfl, odd_bare "none" "none" m (.free (by decide +kernel)) (by decide +kernel)⟩,
    ⟨_, rfl, odd_bare "push1" "push1" m (.free (by decide +kernel)) (by decide +kernel)⟩,
    ⟨_, rfl, odd_bare "give 0" "give" m (.free (by decide +kernel)) (by decide +kernel)⟩, fun _ h => by cases h⟩
theorem odds7 (m : Int) (w : String) (hw : w ∈ nbs) : ∀ o ∈ [" 1", "1 ", "01", "-1", "+1", "00", "1_0"], OddT (Str.ofString w ++ Str.ofString " " ++ Str.ofString o) m := by
  simp only [List.forall_mem_cons]
  exact ⟨odd_two m w _ hw (by decide +kernel), odd_two m w _ hw (by decide +kernel), odd_two m w _ hw (by decide +kernel), odd_two m w _ hw (by decide +kernel), odd_two m w _ hw (by decide +kernel), odd_two m w _ hw (by decide +kernel), odd_two m w _ hw (by decide +kernel), fun _ h => by cases h⟩

--CUT
/-! k09: the part that is put in -/
abbrev WrB : Z.S := F_l_wrong.body
theorem new_get_at (h : Hm) (o : O) : (h.new o).get h.next = some o := by rw [new_get, if_pos rfl]
theorem comp_ev {cl : Cl} {elt : E} {own : List Nat} {g : Tg} {k : ItK} {es : Es} {tst : Z.T} {env : Env} {h h1 : Hm} {vs items : List D} {gd : List (Nat × O)} (he : evs PR cl es env h = some (.ok vs, h1)) (hw : walk k vs h1 = some (items, gd)) (hg : g.in_ own = true) :
    ev PR cl (.comp elt own g k es tst) env h = compL (fun e1 h2 => ev PR cl elt e1 h2) (fun e1 h2 => evT PR cl tst e1 h2) g gd h1.next (wipeE env own) items (h1.new (.lst [])) := by
  rw [ev, he]
  show (match walk k vs h1 with | some (items, gd) => _ | none => none) = _
  rw [hw]
  show (if g.in_ own = true then _ else none) = _
  rw [if_pos hg]
theorem c_lwrong (n : Nat) (v m : Int) (h : Hm) (hv : 0 ≤ v ∧ v < 1000000000000000000000000000000) (hm : 1 ≤ m ∧ m ≤ 60) :
    ∃ g z, callF PR (n + 1) "_law_wrong" [.int v, .int m] h = some (.ok (.str z), g) ∧ Gro h g ∧ OddT z m := by
  rw [callF_eq fn_l_wrong rfl]
  obtain ⟨R, hR⟩ : ∃ R : Res D → Prop, (fun r => ∃ g z, r = some (.ok (.str z), g) ∧ Gro h g ∧ OddT z m) = R := ⟨_, rfl⟩
  have goal : Ends R (ex PR (callF PR n) (WrB.from 0) (start F_l_wrong.ns [.int v, .int m]) h) := by
    have o1 := odds1 m hm
    have o2 := odds2 m hm
    have o3 := odds3 m hm
    have o4 := odds4 m hm
    have o5 := odds5 m hm
    have u1 := odd_push m (18446744073709551616 + v) (by omega) (by omega)
    have u2 := odd_jump m (m + 1 + v) "jump" (Str.ofString "jump ") (by decide +kernel) (.inl rfl) (by omega) (by omega) (by omega)
    have b1 : ∀ g, biD .str [.int (m + 1)] g = some (.ok (.str (Str.ofString (toString (m + 1)))), g) := fun g => bi_str (by omega)
    have b2 : ∀ g, biD .str [.int (m + 60)] g = some (.ok (.str (Str.ofString (toString (m + 60)))), g) := fun g => bi_str (by omega)
    have b3 : ∀ g, biD .str [.int (18446744073709551616 + v)] g = some (.ok (.str (Str.ofString (toString (18446744073709551616 + v)))), g) := fun g => bi_str (by omega)
    have b4 : ∀ g, biD .str [.int (m + 1 + v)] g = some (.ok (.str (Str.ofString (toString (m + 1 + v)))), g) := fun g => bi_str (by omega)
    have n1 := num_len (m + 1) (by omega)
    have n2 := num_len (m + 60) (by omega)
    have n3 := num_len (18446744073709551616 + v) (by omega)
    have n4 := num_len (m + 1 + v) (by omega)
    generalize Str.ofString (toString (m + 1)) = t1 at o4 b1 n1
    generalize Str.ofString (toString (m + 60)) = t2 at o4 b2 n2
    generalize Str.ofString (toString (18446744073709551616 + v)) = t3 at u1 b3 n3
    generalize Str.ofString (toString (m + 1 + v)) = t4 at u2 b4 n4
    have k1 : (Str.ofString "jump ").length = 5 := by decide +kernel
    have k2 : (Str.ofString "jumpif ").length = 7 := by decide +kernel
    have k3 : (Str.ofString "push ").length = 5 := by decide +kernel
    obtain ⟨N, hN⟩ : ∃ N, h.next = N := ⟨_, rfl⟩
    obtain ⟨A0, hA0⟩ : ∃ A, [D.str (Str.ofString " "), D.str (Str.ofString "push"), D.str (Str.ofString "push "), D.str (Str.ofString "push 01"), D.str (Str.ofString "push  1"), D.str (Str.ofString "push 1 "), D.str (Str.ofString " push 1"), D.str (Str.ofString "push -1"), D.str (Str.ofString "push +1"), D.str (Str.ofString "push 00")] = A := ⟨_, rfl⟩
    have lA0 : A0.length = 10 := by rw [← hA0]; rfl
    rw [hA0] at o1
    obtain ⟨A1, hA1⟩ : ∃ A, [D.str (Str.ofString "push 18446744073709551616"), D.str (Str.ofString "push 99999999999999999999"), D.str (Str.ofString "push 100000000000000000000")] = A := ⟨_, rfl⟩
    have lA1 : A1.length = 3 := by rw [← hA1]; rfl
    rw [hA1] at o2
    obtain ⟨A2, hA2⟩ : ∃ A, [D.str (Str.ofString "copy 16"), D.str (Str.ofString "copy"), D.str (Str.ofString "swap 0"), D.str (Str.ofString "swap 16"), D.str (Str.ofString "swap 1a"), D.str (Str.ofString "drop 1"), D.str (Str.ofString "drop "), D.str (Str.ofString " add"), D.str (Str.ofString "Add"), D.str (Str.ofString "ADD")] = A := ⟨_, rfl⟩
    have lA2 : A2.length = 10 := by rw [← hA2]; rfl
    rw [hA2] at o3
    obtain ⟨A3, hA3⟩ : ∃ A, [D.str (Str.ofString "jumpif"), D.str (Str.ofString "jump x"), D.str (Str.ofString "jump " ++ t1), D.str (Str.ofString "jumpif " ++ t2), D.str (Str.ofString "jumpif1"), D.str (Str.ofString "copy 1;")] = A := ⟨_, rfl⟩
    have lA3 : A3.length = 6 := by rw [← hA3]; rfl
    rw [hA3] at o4
    obtain ⟨A4, hA4⟩ : ∃ A, [D.str (Str.ofString "add;drop"), D.str (Str.ofString "push 1;add"), D.str (Str.ofString "push 1,"), D.str (Str.ofString "7"), D.str (Str.ofString "push push"), D.str (Str.ofString "push 1 2"), D.str (Str.ofString "none"), D.str (Str.ofString "push1"), D.str (Str.ofString "give 0")] = A := ⟨_, rfl⟩
    have lA4 : A4.length = 9 := by rw [← hA4]; rfl
    rw [hA4] at o5
    (rw [show Z.S.from WrB 0 = .seq (Z.S.from WrB 0).hd (Z.S.from WrB 1) from rfl]; generalize hKK : Z.S.from WrB 1 = KK; simp_arith! [WrB, F_l_wrong, Z.S.bd, Z.S.hd, Z.S.tl, Z.S.from, hA0, lA0]; subst hKK; first | refine name_thru fun g0 hg0 => ?_ | refine name_ends fun g0 hg0 => ?_)
    have r0 : Gro h g0 := by rw [← hg0]; exact .new
    have m0 : g0.next = N + 1 := by rw [← hg0, new_next, hN]
    have q0 : g0.get N = some (.lst A0) := by rw [← hg0, ← hN]; exact new_get_at ..
    rw [hN]
    have lB0 : A0.length = 10 := lA0
    have ob0 := o1
    obtain ⟨e1, he1⟩ : ∃ e, g0.new (.lst A1) = e := ⟨_, rfl⟩
    have er1 : Gro g0 e1 := by rw [← he1]; exact .new
    have em1 : e1.next = N + 2 := by rw [← he1, new_next, m0]
    have eq1 : e1.get (N + 1) = some (.lst A1) := by rw [← he1, ← m0]; exact new_get_at ..
    have ep1 := er1.get q0 (by omega)
    (rw [show Z.S.from WrB 1 = .seq (Z.S.from WrB 1).hd (Z.S.from WrB 2) from rfl]; generalize hKK : Z.S.from WrB 2 = KK; simp_arith! [WrB, F_l_wrong, Z.S.bd, Z.S.hd, Z.S.tl, Z.S.from, hA1, he1, m0, em1, eq1, ep1, lB0, lA1]; subst hKK; first | refine name_thru fun g1 hg1 => ?_ | refine name_ends fun g1 hg1 => ?_)
    obtain ⟨B1, hB1⟩ : ∃ B, A0 ++ A1 = B := ⟨_, rfl⟩
    rw [hB1] at hg1
    have lB1 : B1.length = 13 := by rw [← hB1, List.length_append, lB0, lA1]
    have ob1 : ∀ x ∈ B1, OdD m x := by rw [← hB1]; exact fun x hx => (List.mem_append.mp hx).elim (ob0 x) (o2 x)
    have r1 : Gro e1 g1 := by rw [← hg1]; exact .new
    have m1 : g1.next = N + 3 := by rw [← hg1, new_next, em1]
    have q1 : g1.get (N + 2) = some (.lst B1) := by rw [← hg1, ← em1]; exact new_get_at ..
    have rr1 := r0.trans (er1.trans r1)
    obtain ⟨e2, he2⟩ : ∃ e, g1.new (.lst A2) = e := ⟨_, rfl⟩
    have er2 : Gro g1 e2 := by rw [← he2]; exact .new
    have em2 : e2.next = N + 4 := by rw [← he2, new_next, m1]
    have eq2 : e2.get (N + 3) = some (.lst A2) := by rw [← he2, ← m1]; exact new_get_at ..
    have ep2 := er2.get q1 (by omega)
    (rw [show Z.S.from WrB 2 = .seq (Z.S.from WrB 2).hd (Z.S.from WrB 3) from rfl]; generalize hKK : Z.S.from WrB 3 = KK; simp_arith! [WrB, F_l_wrong, Z.S.bd, Z.S.hd, Z.S.tl, Z.S.from, hA2, he2, m1, em2, eq2, ep2, lB1, lA2]; subst hKK; first | refine name_thru fun g2 hg2 => ?_ | refine name_ends fun g2 hg2 => ?_)
    obtain ⟨B2, hB2⟩ : ∃ B, B1 ++ A2 = B := ⟨_, rfl⟩
    rw [hB2] at hg2
    have lB2 : B2.length = 23 := by rw [← hB2, List.length_append, lB1, lA2]
    have ob2 : ∀ x ∈ B2, OdD m x := by rw [← hB2]; exact fun x hx => (List.mem_append.mp hx).elim (ob1 x) (o3 x)
    have r2 : Gro e2 g2 := by rw [← hg2]; exact .new
    have m2 : g2.next = N + 5 := by rw [← hg2, new_next, em2]
    have q2 : g2.get (N + 4) = some (.lst B2) := by rw [← hg2, ← em2]; exact new_get_at ..
    have rr2 := rr1.trans (er2.trans r2)
    have al1 := str_app_len (Str.ofString "jump ") t1
    have al2 := str_app_len (Str.ofString "jumpif ") t2
    obtain ⟨e3, he3⟩ : ∃ e, g2.new (.lst A3) = e := ⟨_, rfl⟩
    have er3 : Gro g2 e3 := by rw [← he3]; exact .new
    have em3 : e3.next = N + 6 := by rw [← he3, new_next, m2]
    have eq3 : e3.get (N + 5) = some (.lst A3) := by rw [← he3, ← m2]; exact new_get_at ..
    have ep3 := er3.get q2 (by omega)
    (rw [show Z.S.from WrB 3 = .seq (Z.S.from WrB 3).hd (Z.S.from WrB 4) from rfl]; generalize hKK : Z.S.from WrB 4 = KK; simp_arith! [WrB, F_l_wrong, Z.S.bd, Z.S.hd, Z.S.tl, Z.S.from, -bi_str, b1, b2, hA3, he3, m2, em3, eq3, ep3, lB2, lA3]; subst hKK; first | refine name_thru fun g3 hg3 => ?_ | refine name_ends fun g3 hg3 => ?_)
    obtain ⟨B3, hB3⟩ : ∃ B, B2 ++ A3 = B := ⟨_, rfl⟩
    rw [hB3] at hg3
    have lB3 : B3.length = 29 := by rw [← hB3, List.length_append, lB2, lA3]
    have ob3 : ∀ x ∈ B3, OdD m x := by rw [← hB3]; exact fun x hx => (List.mem_append.mp hx).elim (ob2 x) (o4 x)
    have r3 : Gro e3 g3 := by rw [← hg3]; exact .new
    have m3 : g3.next = N + 7 := by rw [← hg3, new_next, em3]
    have q3 : g3.get (N + 6) = some (.lst B3) := by rw [← hg3, ← em3]; exact new_get_at ..
    have rr3 := rr2.trans (er3.trans r3)
    obtain ⟨e4, he4⟩ : ∃ e, g3.new (.lst A4) = e := ⟨_, rfl⟩
    have er4 : Gro g3 e4 := by rw [← he4]; exact .new
    have em4 : e4.next = N + 8 := by rw [← he4, new_next, m3]
    have eq4 : e4.get (N + 7) = some (.lst A4) := by rw [← he4, ← m3]; exact new_get_at ..
    have ep4 := er4.get q3 (by omega)
    (rw [show Z.S.from WrB 4 = .seq (Z.S.from WrB 4).hd (Z.S.from WrB 5) from rfl]; generalize hKK : Z.S.from WrB 5 = KK; simp_arith! [WrB, F_l_wrong, Z.S.bd, Z.S.hd, Z.S.tl, Z.S.from, hA4, he4, m3, em4, eq4, ep4, lB3, lA4]; subst hKK; first | refine name_thru fun g4 hg4 => ?_ | refine name_ends fun g4 hg4 => ?_)
    obtain ⟨B4, hB4⟩ : ∃ B, B3 ++ A4 = B := ⟨_, rfl⟩
    rw [hB4] at hg4
    have lB4 : B4.length = 38 := by rw [← hB4, List.length_append, lB3, lA4]
    have ob4 : ∀ x ∈ B4, OdD m x := by rw [← hB4]; exact fun x hx => (List.mem_append.mp hx).elim (ob3 x) (o5 x)
    have r4 : Gro e4 g4 := by rw [← hg4]; exact .new
    have m4 : g4.next = N + 9 := by rw [← hg4, new_next, em4]
    have q4 : g4.get (N + 8) = some (.lst B4) := by rw [← hg4, ← em4]; exact new_get_at ..
    have rr4 := rr3.trans (er4.trans r4)
    have al3 := str_app_len (Str.ofString "push ") t3
    have al4 := str_app_len (Str.ofString "jump ") t4
    obtain ⟨f1, hf1⟩ : ∃ f, g4.new (.lst [D.str (Str.ofString ""), D.str (Str.ofString " ")]) = f := ⟨_, rfl⟩
    have fr1 : Gro g4 f1 := by rw [← hf1]; exact .new
    have fm1 : f1.next = N + 10 := by rw [← hf1, new_next, m4]
    have fq1 : f1.get (N + 9) = some (.lst [D.str (Str.ofString ""), D.str (Str.ofString " ")]) := by rw [← hf1, ← m4]; exact new_get_at ..
    have rest : ∀ (z : Str), OddT z m → ∀ g5 : Hm, ((f1.new (.lst [D.str (Str.ofString "push " ++ t3), D.str (Str.ofString "jump " ++ t4), .str z])).new (.lst (B4 ++ [D.str (Str.ofString "push " ++ t3), D.str (Str.ofString "jump " ++ t4), .str z]))) = g5 → Ends R (ex PR (callF PR n) (WrB.from 6) [some (.int v), some (.int m), some (.ref (N + 11)), none, none] g5) := by
      intro z oz g5 hg5
      obtain ⟨B5, hB5⟩ : ∃ B, B4 ++ [D.str (Str.ofString "push " ++ t3), D.str (Str.ofString "jump " ++ t4), .str z] = B := ⟨_, rfl⟩
      rw [hB5] at hg5
      have lB5 : B5.length = 41 := by rw [← hB5, List.length_append, lB4]; rfl
      have ob5 : ∀ x ∈ B5, OdD m x := by
        rw [← hB5]
        intro x hx
        rcases List.mem_append.mp hx with hx | hx
        · exact ob4 x hx
        · simp only [List.mem_cons, List.not_mem_nil, or_false] at hx
          rcases hx with rfl | rfl | rfl
          · exact ⟨_, rfl, u1⟩
          · exact ⟨_, rfl, u2⟩
          · exact ⟨_, rfl, oz⟩
      have r5 : Gro f1 g5 := by rw [← hg5]; exact Gro.new.trans .new
      have m5 : g5.next = N + 12 := by rw [← hg5, new_next, new_next, fm1]
      have q5 : g5.get (N + 11) = some (.lst B5) := by rw [← hg5, show N + 11 = (f1.new (.lst [D.str (Str.ofString "push " ++ t3), D.str (Str.ofString "jump " ++ t4), .str z])).next by rw [new_next, fm1]]; exact new_get_at ..
      obtain ⟨wd, ew, hw⟩ : ∃ wd : String, atD [D.str (Str.ofString "push"), D.str (Str.ofString "copy"), D.str (Str.ofString "swap"), D.str (Str.ofString "jump"), D.str (Str.ofString "jumpif")] (v / 53 % 5) = some (.str (Str.ofString wd)) ∧ wd ∈ nbs := by
        have : v / 53 % 5 = 0 ∨ v / 53 % 5 = 1 ∨ v / 53 % 5 = 2 ∨ v / 53 % 5 = 3 ∨ v / 53 % 5 = 4 := by omega
        rcases this with e | e | e | e | e <;> rw [e]
        · exact ⟨"push", rfl, by decide⟩
        · exact ⟨"copy", rfl, by decide⟩
        · exact ⟨"swap", rfl, by decide⟩
        · exact ⟨"jump", rfl, by decide⟩
        · exact ⟨"jumpif", rfl, by decide⟩
      obtain ⟨f2, hf2⟩ : ∃ f, g5.new (.lst [D.str (Str.ofString "push"), D.str (Str.ofString "copy"), D.str (Str.ofString "swap"), D.str (Str.ofString "jump"), D.str (Str.ofString "jumpif")]) = f := ⟨_, rfl⟩
      have fr2 : Gro g5 f2 := by rw [← hf2]; exact .new
      have fm2 : f2.next = N + 13 := by rw [← hf2, new_next, m5]
      have fq2 : f2.get (N + 12) = some (.lst [D.str (Str.ofString "push"), D.str (Str.ofString "copy"), D.str (Str.ofString "swap"), D.str (Str.ofString "jump"), D.str (Str.ofString "jumpif")]) := by rw [← hf2, ← m5]; exact new_get_at ..
      have q52 := fr2.get q5 (by omega)
      (rw [show Z.S.from WrB 6 = .seq (Z.S.from WrB 6).hd (Z.S.from WrB 7) from rfl]; generalize hKK : Z.S.from WrB 7 = KK; simp_arith! [WrB, F_l_wrong, Z.S.bd, Z.S.hd, Z.S.tl, Z.S.from, hf2, m5, fq2, ew]; subst hKK)
      clear ew
      have o7 := odds7 m wd hw
      have lw : (Str.ofString wd).length ≤ 10 := by
        have : wd ∈ wds := by
          simp only [nbs, List.mem_cons, List.not_mem_nil, or_false] at hw
          rcases hw with rfl | rfl | rfl | rfl | rfl <;> decide
        exact (wds_free wd this).2.2.2
      generalize Str.ofString wd = ws at o7 lw
      obtain ⟨CE, hCE⟩ : ∃ CE, (E.comp (.bin .add (.bin .add (.var 3) (.con (.str " "))) (.var 4)) [4] (.name 4) .seq (.cons (.lst (.cons (.con (.str " 1")) (.cons (.con (.str "1 ")) (.cons (.con (.str "01")) (.cons (.con (.str "-1")) (.cons (.con (.str "+1")) (.cons (.con (.str "00")) (.cons (.con (.str "1_0")) (.nil))))))))) .nil) (.yes)) = CE := ⟨_, rfl⟩
      have eC : ∃ g6, ev PR (callF PR n) CE [some (.int v), some (.int m), some (.ref (N + 11)), some (.str ws), none] f2 = some (.ok (.ref (N + 14)), g6) ∧ Gro f2 g6 ∧ N + 14 < g6.next ∧ g6.get (N + 14) = some (.lst ([" 1", "1 ", "01", "-1", "+1", "00", "1_0"].map fun o => D.str (ws ++ Str.ofString " " ++ Str.ofString o))) := by
        obtain ⟨f3, hf3⟩ : ∃ f, f2.new (.lst ([" 1", "1 ", "01", "-1", "+1", "00", "1_0"].map fun o => D.str (Str.ofString o))) = f := ⟨_, rfl⟩
        have fr3 : Gro f2 f3 := by rw [← hf3]; exact .new
        have fm3 : f3.next = N + 14 := by rw [← hf3, new_next, fm2]
        have fq3 : f3.get (N + 13) = some (.lst ([" 1", "1 ", "01", "-1", "+1", "00", "1_0"].map fun o => D.str (Str.ofString o))) := by rw [← hf3, ← fm2]; exact new_get_at ..
        obtain ⟨g6, e6, r6, l6, q6⟩ := compL_gro (fe := fun e1 h2 => ev PR (callF PR n) (.bin .add (.bin .add (.var 3) (.con (.str " "))) (.var 4)) e1 h2) (ft := fun e1 h2 => evT PR (callF PR n) .yes e1 h2) (g := .name 4) (gd := [(N + 13, .lst ([" 1", "1 ", "01", "-1", "+1", "00", "1_0"].map fun o => D.str (Str.ofString o)))]) (env := [some (.int v), some (.int m), some (.ref (N + 11)), some (.str ws), none]) (h := f3) (cs := [" 1", "1 ", "01", "-1", "+1", "00", "1_0"]) (fun o => D.str (Str.ofString o)) (fun o => D.str (ws ++ Str.ofString " " ++ Str.ofString o)) (fun h' g' => by rw [stays_cons]; exact ⟨g'.get fq3 (by omega), stays_nil _⟩) (fun o ho => ⟨_, rfl, fun h' g' _ => ⟨by simp_arith [], h', by
          have lo : (Str.ofString o).length ≤ 10 := by
            have : ∀ o ∈ [" 1", "1 ", "01", "-1", "+1", "00", "1_0"], (Str.ofString o).length ≤ 10 := by decide +kernel
            exact this o ho
          have sl := sp_len
          have a1 := str_app_len ws (Str.ofString " ")
          have a2 := str_app_len (ws ++ Str.ofString " ") (Str.ofString o)
          generalize Str.ofString o = os at lo a2
          simp_arith! [], .refl⟩⟩) (by simp)
        rw [fm3] at e6 l6 q6
        refine ⟨g6, ?_, fr3.trans r6, l6, q6⟩
        rw [← hCE, comp_ev (h1 := f3) (vs := [.ref (N + 13)]) (gd := [(N + 13, .lst ([" 1", "1 ", "01", "-1", "+1", "00", "1_0"].map fun o => D.str (Str.ofString o)))]) (items := [" 1", "1 ", "01", "-1", "+1", "00", "1_0"].map fun o => D.str (Str.ofString o)) (by
          rw [← hf3, ← fm2]; simp_arith! []) (by simp_arith [fq3]) rfl, fm3]
        exact e6
      obtain ⟨g6, eC, r6, l6, q6⟩ := eC
      obtain ⟨A6, hA6⟩ : ∃ A, ([" 1", "1 ", "01", "-1", "+1", "00", "1_0"].map fun o => D.str (ws ++ Str.ofString " " ++ Str.ofString o)) = A := ⟨_, rfl⟩
      rw [hA6] at q6
      have lA6 : A6.length = 7 := by rw [← hA6]; rfl
      have oA6 : ∀ x ∈ A6, OdD m x := by
        rw [← hA6]
        intro x hx
        obtain ⟨o, ho, rfl⟩ := List.mem_map.mp hx
        exact ⟨_, rfl, o7 o ho⟩
      have q56 := r6.get q52 (by omega)
      have xe : ex PR (callF PR n) (WrB.from 7) [some (.int v), some (.int m), some (.ref (N + 11)), some (.str ws), none] f2 = ex PR (callF PR n) (WrB.from 8) [some (.int v), some (.int m), some (.ref g6.next), some (.str ws), none] (g6.new (.lst (B5 ++ A6))) := by
        rw [show WrB.from 7 = .seq (.asg 2 (.bin .add (.var 2) CE)) (WrB.from 8) from by rw [← hCE]; rfl]
        generalize WrB.from 8 = KK
        simp_arith! [eC, q56, q6, lB5, lA6]
      rw [xe]
      obtain ⟨B6, hB6⟩ : ∃ B, B5 ++ A6 = B := ⟨_, rfl⟩
      rw [hB6]
      have lB6 : B6.length = 48 := by rw [← hB6, List.length_append, lB5, lA6]
      obtain ⟨x, ex_, z2, rfl, oz2⟩ := pickD (P := OdD m) B6 v 48 (by rw [lB6]; rfl) (by decide) (by rw [← hB6]; exact fun x hx => (List.mem_append.mp hx).elim (ob5 x) (oA6 x))
      have q8 : (g6.new (.lst B6)).get g6.next = some (.lst B6) := new_get_at ..
      simp_arith! [WrB, F_l_wrong, Z.S.bd, Z.S.hd, Z.S.tl, Z.S.from, q8, lB6, ex_]
      rw [← hR]
      exact ⟨_, z2, rfl, ((((((rr4.trans fr1).trans r5).trans fr2).trans r6)).trans .new), oz2⟩
    have ld : (Str.ofString "").length = 0 := by decide +kernel
    have i0 : atD [D.str (Str.ofString ""), D.str (Str.ofString " ")] 0 = some (D.str (Str.ofString "")) := rfl
    have i1 : atD [D.str (Str.ofString ""), D.str (Str.ofString " ")] 1 = some (D.str (Str.ofString " ")) := rfl
    by_cases zm : m < 2
    · have rest := rest (Str.ofString " ") (odd_bare " " "" m (.free (by decide +kernel)) (by decide +kernel))
      have fqq := fr1.get q4 (by omega)
      (rw [show Z.S.from WrB 5 = .seq (Z.S.from WrB 5).hd (Z.S.from WrB 6) from rfl]; generalize hKK : Z.S.from WrB 6 = KK; simp_arith! [WrB, F_l_wrong, Z.S.bd, Z.S.hd, Z.S.tl, Z.S.from, -bi_str, b3, b4, hf1, m4, fm1, fqq, fq1, i0, i1, zm, lB4]; subst hKK)
      exact rest _ rfl
    · have oe : OddT (Str.ofString "") m := by
        refine ⟨by omega, .free (by decide +kernel), .inr ⟨("", none), rr_bare0 (w := "") (x := (Txt.partition (Str.ofString "") (Str.ofString " ")).2.1) (y := (Txt.partition (Str.ofString "") (Str.ofString " ")).2.2) (by omega) (by decide +kernel) (by decide), by simp [rr, wds]⟩, fun _ => by omega⟩
      have rest := rest (Str.ofString "") oe
      have fqq := fr1.get q4 (by omega)
      (rw [show Z.S.from WrB 5 = .seq (Z.S.from WrB 5).hd (Z.S.from WrB 6) from rfl]; generalize hKK : Z.S.from WrB 6 = KK; simp_arith! [WrB, F_l_wrong, Z.S.bd, Z.S.hd, Z.S.tl, Z.S.from, -bi_str, b3, b4, hf1, m4, fm1, fqq, fq1, i0, i1, zm, lB4]; subst hKK)
      exact rest _ rfl
  rw [← hR] at goal
  exact goal

--CUT
/-! k09: the law -/
abbrev LB : Z.S := F_law.body
def TR (r : Res D) : Prop := ∃ h', r = some (.ok (.bl true), h')
theorem c_cell_at (n : Nat) (ns : List Int) (k : Nat) (h : Hm) (e : h.get 0 = some (.fz (ns.map D.int))) : callF PR (n + 1) "_law_cell_at" [.ref 0, .int (k : Int)] h = some (.ok (.int (cell ns k)), h) := by
  rw [callF_eq fn_l_cell_at rfl]
  by_cases hk : k < ns.length
  · simp_arith [F_l_cell_at, e, hk, at_script]
  · simp_arith [F_l_cell_at, e, hk, cell_out]
theorem c_cell_lit (n : Nat) (ns : List Int) (k : Nat) (h : Hm) (e : h.get 0 = some (.fz (ns.map D.int))) : callF PR (n + 1) "_law_cell_at" [.ref 0, .int (no_index (@OfNat.ofNat Int k _))] h = some (.ok (.int (cell ns k)), h) := c_cell_at n ns k h e

theorem cut2_len {α : Type} (xs : List α) (a b : Nat) : (cut xs (some (a : Int)) (some (b : Int))).length ≤ b - a := by
  unfold cut sI
  dsimp only
  rw [if_neg (by omega), if_neg (by omega), Int.toNat_natCast, Int.toNat_natCast, List.length_take, List.length_drop]
  omega
theorem oddsum {ps : List Str} (hp : ∀ p ∈ ps, p.length ≤ 2000) (hl : ps.length ≤ 100) : (ps.map (·.length)).sum + ps.length * (Str.ofString "; ").length ≤ 300000 := by
  have := sum_le ps 2000 hp
  rw [se_len]
  have : ps.length * 2000 ≤ 100 * 2000 := Nat.mul_le_mul_right _ hl
  omega
/-- the end, where it is refused -/
theorem law_bad (h : Hm) (t : Str) (v1 v2 v3 v4 v5 v8 v9 v10 : Option D) (w : Int) (hw : w < 7) (e : ∀ g, ERR g (callF PR 5 "read" [.str t] g)) :
    Ends TR (ex PR (callF PR 6) (LB.from 9) [some (.ref 0), v1, v2, v3, v4, v5, some (.int w), some (.str t), v8, v9, v10] h) := by
  obtain ⟨g, e1, _⟩ := e h
  obtain ⟨g2, e2, _⟩ := e g
  have r1 := c_lrefused 4 h g t e1
  have r2 := c_lrefused_any 4 g g2 t e2
  obtain ⟨R, hR⟩ : ∃ R, TR = R := ⟨_, rfl⟩
  rw [hR]
  (rw [show Z.S.from LB 9 = .seq (Z.S.from LB 9).hd (Z.S.from LB 10) from rfl]; generalize hKK : Z.S.from LB 10 = KK; simp_arith! [LB, F_law, Z.S.bd, Z.S.hd, Z.S.tl, Z.S.from, hw, -ev_and, ev_and2, r1, r2]; subst hKK)
  rw [← hR]
  exact ⟨_, rfl⟩
/-- a joined text of parts that is refused -/
theorem join_err (m : Int) (ps : List Str) (hn : ps ≠ []) (hl : ps.length ≤ 100) (l2 : ∀ p ∈ ps, p.length ≤ 2000) (ns : ∀ p ∈ ps, NoSep p.cps.toList) (n0 : ps ≠ [Str.ofString ""]) :
    Txt.split (Txt.join (Str.ofString "; ") ps) (Str.ofString "; ") = ps ∧ ¬ Txt.join (Str.ofString "; ") ps = Str.ofString "" ∧ (Txt.join (Str.ofString "; ") ps).length ≤ 1000000 := by
  have sp := split_parts hn ns
  refine ⟨sp, fun z => ?_, ?_⟩
  · rw [z, show Txt.split (Str.ofString "") (Str.ofString "; ") = [Str.ofString ""] by decide +kernel] at sp
    exact n0 sp.symm
  · have := join_le (Str.ofString "; ") ps
    have := oddsum l2 hl
    omega
theorem law_go (ns : List Int) (hn : ns.length ≤ 63) (h : Hm) (z0 : h.get 0 = some (.fz (ns.map D.int))) (l0 : 0 < h.next) : Ends TR (ex PR (callF PR 6) (LB.from 0) (start F_law.ns [.ref 0]) h) := by
  have zc := fun k h e => c_cell_lit 5 ns k h e
  obtain ⟨us, hus⟩ : ∃ us, cut ns (some 2) (some 61) = us := ⟨_, rfl⟩
  have ct : cut (ns.map D.int) (some 2) (some 61) = us.map D.int := by rw [cut_map, hus]
  have ul : us.length ≤ 59 := by rw [← hus]; exact cut2_len ns 2 61
  have lD : (us.map D.int).length = us.length := List.length_map ..
  obtain ⟨UD, hUD⟩ : ∃ d, us.map D.int = d := ⟨_, rfl⟩
  rw [hUD] at ct lD
  (rw [show Z.S.from LB 0 = .seq (Z.S.from LB 0).hd (Z.S.from LB 1) from rfl]; generalize hKK : Z.S.from LB 1 = KK; simp_arith! [LB, F_law, Z.S.bd, Z.S.hd, Z.S.tl, Z.S.from, z0, ct]; subst hKK; first | refine name_thru fun g1 hg1 => ?_ | refine name_ends fun g1 hg1 => ?_)
  have gr1 : Gro h g1 := by rw [← hg1]; exact Gro.new.trans .new
  have n1 : g1.next = h.next + 2 := by rw [← hg1]; rfl
  have q1 : g1.get (h.next + 1) = some (.lst UD) := by rw [← hg1]; exact new_get_at (h.new _) _
  obtain ⟨A, hA⟩ : ∃ A, h.next + 1 = A := ⟨_, rfl⟩
  rw [hA] at q1 ⊢
  have z1 := gr1.get z0 l0
  obtain ⟨m, hm⟩ : ∃ m : Int, (us.length : Int) + 1 = m := ⟨_, rfl⟩
  (rw [show Z.S.from LB 1 = .seq (Z.S.from LB 1).hd (Z.S.from LB 2) from rfl]; generalize hKK : Z.S.from LB 2 = KK; simp_arith! [LB, F_law, Z.S.bd, Z.S.hd, Z.S.tl, Z.S.from, q1, lD, hm]; subst hKK)
  have ec1 := zc 1 g1 z1
  have ec0 := zc 0
  obtain ⟨c1, hc1⟩ : ∃ c, cell ns 1 = c := ⟨_, rfl⟩
  obtain ⟨c0, hc0⟩ : ∃ c, cell ns 0 = c := ⟨_, rfl⟩
  rw [hc1] at ec1
  simp only [hc0] at ec0
  obtain ⟨v, hv⟩ : ∃ v, c1 / 60 % 1000000000000000000000000000000 = v := ⟨_, rfl⟩
  have vb : 0 ≤ v ∧ v < 1000000000000000000000000000000 := by rw [← hv]; exact ⟨Int.emod_nonneg _ (by decide), Int.emod_lt_of_pos _ (by decide)⟩
  (rw [show Z.S.from LB 2 = .seq (Z.S.from LB 2).hd (Z.S.from LB 3) from rfl]; generalize hKK : Z.S.from LB 3 = KK; simp_arith! [LB, F_law, Z.S.bd, Z.S.hd, Z.S.tl, Z.S.from, ec1, hv]; subst hKK)
  -- the rows
  have e3 : ∃ g2, ev PR (callF PR 6) (.comp (.call "_law_row_by" (.cons (.var 8) (.cons (.bi .len (.cons (.var 1) (.nil))) (.nil))) []) [8] (.name 8) .seq (.cons (.var 1) .nil) (.yes)) [some (.ref 0), some (.ref A), some (.int m), some (.int v), none, none, none, none, none, none, none] g1 = some (.ok (.ref g1.next), g2) ∧ Gro g1 g2 ∧ g1.next < g2.next ∧ g2.get g1.next = some (.lst (us.map fun c => rwD (rb us.length c))) := by
    obtain ⟨g2, e, r, l, z⟩ := compL_gro (fe := fun e1 h2 => ev PR (callF PR 6) (.call "_law_row_by" (.cons (.var 8) (.cons (.bi .len (.cons (.var 1) (.nil))) (.nil))) []) e1 h2) (ft := fun e1 h2 => evT PR (callF PR 6) .yes e1 h2) (g := .name 8) (gd := [(A, .lst UD)]) (env := [some (.ref 0), some (.ref A), some (.int m), some (.int v), none, none, none, none, none, none, none]) (h := g1) (cs := us) D.int (fun c => rwD (rb us.length c)) (fun h' g' => by rw [stays_cons]; exact ⟨g'.get q1 (by omega), stays_nil _⟩) (fun c _ => ⟨_, rfl, fun h' g' _ => ⟨by simp_arith [], by
      have q1' := g'.get q1 (by omega)
      obtain ⟨g, e1, e2⟩ := c_row_by 4 us.length c (by omega) h'
      exact ⟨g, by simp_arith [q1', lD, e1], e2⟩⟩⟩) (by omega)
    refine ⟨g2, ?_, r, l, z⟩
    rw [comp_ev (h1 := g1) (vs := [.ref A]) (gd := [(A, .lst UD)]) (items := us.map D.int) (by simp_arith []) (by rw [hUD]; simp_arith [q1]) rfl]
    exact e
  obtain ⟨g2, e3, gr2, l2, q2⟩ := e3
  rw [show LB.from 3 = .seq (.asg 4 (.comp (.call "_law_row_by" (.cons (.var 8) (.cons (.bi .len (.cons (.var 1) (.nil))) (.nil))) []) [8] (.name 8) .seq (.cons (.var 1) .nil) (.yes))) (LB.from 4) from rfl]
  obtain ⟨CE, hCE⟩ : ∃ CE, E.comp (.call "_law_row_by" (.cons (.var 8) (.cons (.bi .len (.cons (.var 1) (.nil))) (.nil))) []) [8] (.name 8) .seq (.cons (.var 1) .nil) (.yes) = CE := ⟨_, rfl⟩
  rw [hCE] at e3 ⊢
  obtain ⟨B, hB⟩ : ∃ B, g1.next = B := ⟨_, rfl⟩
  rw [hB] at e3 l2 q2
  have x3 : ex PR (callF PR 6) (.seq (.asg 4 CE) (LB.from 4)) [some (.ref 0), some (.ref A), some (.int m), some (.int v), none, none, none, none, none, none, none] g1 = ex PR (callF PR 6) (LB.from 4) [some (.ref 0), some (.ref A), some (.int m), some (.int v), some (.ref B), none, none, none, none, none, none] g2 := by
    generalize LB.from 4 = KK
    simp_arith! [e3]
  rw [x3]
  clear x3 e3
  have z2 := gr2.get z1 (by omega)
  rw [show (us.map fun c => rwD (rb us.length c)) = (us.map (rb us.length)).map rwD by rw [List.map_map]; rfl] at q2
  have lr : (us.map (rb us.length)).length = us.length := List.length_map ..
  have all1 : ∀ r ∈ us.map (rb us.length), ∀ k : Int, (us.length : Int) ≤ k → rr r k = true := by
    intro r hr k hk
    obtain ⟨c, _, rfl⟩ := List.mem_map.mp hr
    exact (rb_rr us.length k c (by omega) hk).1
  generalize us.map (rb us.length) = rs at q2 all1 lr
  have rl : rs.length ≤ 59 := by omega
  have rm : ∀ r ∈ rs, rr r 100 = true := fun r hr => all1 r hr 100 (by omega)
  obtain ⟨RD, hRD⟩ : ∃ d, rs.map rwD = d := ⟨_, rfl⟩
  -- the parts
  have e4 : ∃ g3, ev PR (callF PR 6) (.comp (.call "_law_part" (.cons (.var 9) (.nil)) []) [9] (.name 9) .seq (.cons (.var 4) .nil) (.yes)) [some (.ref 0), some (.ref A), some (.int m), some (.int v), some (.ref B), none, none, none, none, none, none] g2 = some (.ok (.ref g2.next), g3) ∧ Gro g2 g3 ∧ g2.next < g3.next ∧ g3.get g2.next = some (.lst (rs.map fun r => D.str (partT r))) := by
    obtain ⟨g2', e, r, l, z⟩ := compL_gro (fe := fun e1 h2 => ev PR (callF PR 6) (.call "_law_part" (.cons (.var 9) (.nil)) []) e1 h2) (ft := fun e1 h2 => evT PR (callF PR 6) .yes e1 h2) (g := .name 9) (gd := [(B, .lst (rs.map rwD))]) (env := [some (.ref 0), some (.ref A), some (.int m), some (.int v), some (.ref B), none, none, none, none, none, none]) (h := g2) (cs := rs) rwD (fun r => D.str (partT r)) (fun h' g' => by rw [stays_cons]; exact ⟨g'.get q2 (by omega), stays_nil _⟩) (fun r hr => ⟨_, rfl, fun h' g' _ => ⟨by simp_arith [], h', by
      have e1 := c_lpart 5 (m := 100) (by omega) (rm r hr) h'
      simp_arith [e1], .refl⟩⟩) (by omega)
    refine ⟨g2', ?_, r, l, z⟩
    rw [comp_ev (h1 := g2) (vs := [.ref B]) (gd := [(B, .lst (rs.map rwD))]) (items := rs.map rwD) (by simp_arith []) (by simp_arith [q2]) rfl]
    exact e
  obtain ⟨g3, e4, gr3, l3, q3⟩ := e4
  rw [show LB.from 4 = .seq (.asg 5 (.comp (.call "_law_part" (.cons (.var 9) (.nil)) []) [9] (.name 9) .seq (.cons (.var 4) .nil) (.yes))) (LB.from 5) from rfl]
  obtain ⟨CE2, hCE2⟩ : ∃ CE, E.comp (.call "_law_part" (.cons (.var 9) (.nil)) []) [9] (.name 9) .seq (.cons (.var 4) .nil) (.yes) = CE := ⟨_, rfl⟩
  rw [hCE2] at e4 ⊢
  obtain ⟨C, hC⟩ : ∃ C, g2.next = C := ⟨_, rfl⟩
  rw [hC] at e4 l3 q3
  have x4 : ex PR (callF PR 6) (.seq (.asg 5 CE2) (LB.from 5)) [some (.ref 0), some (.ref A), some (.int m), some (.int v), some (.ref B), none, none, none, none, none, none] g2 = ex PR (callF PR 6) (LB.from 5) [some (.ref 0), some (.ref A), some (.int m), some (.int v), some (.ref B), some (.ref C), none, none, none, none, none] g3 := by
    generalize LB.from 5 = KK
    simp_arith! [e4]
  rw [x4]
  clear x4 e4
  have z3 := gr3.get z2 (by omega)
  have q23 := gr3.get q2 (by omega)
  have ec03 := ec0 g3 z3
  have ec13 : callF PR 6 "_law_cell_at" [.ref 0, .int 1] g3 = some (.ok (.int c1), g3) := by rw [← hc1]; exact zc 1 g3 z3
  obtain ⟨w, hw⟩ : ∃ w, c0 % 8 = w := ⟨_, rfl⟩
  have wb : 0 ≤ w ∧ w < 8 := by omega
  (rw [show Z.S.from LB 5 = .seq (Z.S.from LB 5).hd (Z.S.from LB 6) from rfl]; generalize hKK : Z.S.from LB 6 = KK; simp_arith! [LB, F_law, Z.S.bd, Z.S.hd, Z.S.tl, Z.S.from, ec03, hw]; subst hKK)
  have mb : 1 ≤ m ∧ m ≤ 60 := by omega
  have PT : ∀ r ∈ rs, (partT r).length ≤ 2000 ∧ NoSep (partT r).cps.toList ∧ RR (partT r) (some r) ∧ 1 ≤ (partT r).length := fun r hr => by
    have a := part_len (m := 100) (by omega) (rm r hr)
    exact ⟨a.2, .free (part_free (m := 100) (by omega) (rm r hr)), fun n h => c_read_row n (m := 100) (by omega) (rm r hr) h, a.1⟩
  have q3' : g3.get C = some (.lst ((rs.map partT).map D.str)) := by rw [q3, List.map_map]; rfl
  have lP : ((rs.map partT).map D.str).length = rs.length := by rw [List.length_map, List.length_map]
  by_cases w6 : w < 6
  · -- a part put in
    obtain ⟨g4, z, e5, gr4, oz⟩ := c_lwrong 5 v m g3 vb mb
    obtain ⟨at_, hat⟩ : ∃ a, c1 % m = a := ⟨_, rfl⟩
    have ab : 0 ≤ at_ ∧ at_ < m := by rw [← hat]; exact ⟨Int.emod_nonneg _ (by omega), Int.emod_lt_of_pos _ (by omega)⟩
    obtain ⟨i, hi⟩ := Int.eq_ofNat_of_zero_le ab.1
    have q4 := gr4.get q3' (by omega)
    have mp : 0 < m := by omega
    obtain ⟨g5, hg5⟩ : ∃ g5, g4.put C (.lst (((rs.map partT).map D.str).take i ++ .str z :: ((rs.map partT).map D.str).drop i)) = g5 := ⟨_, rfl⟩
    obtain ⟨ps, hps⟩ : ∃ ps, (rs.take i).map partT ++ z :: (rs.drop i).map partT = ps := ⟨_, rfl⟩
    have q5 : g5.get C = some (.lst (ps.map D.str)) := by
      rw [← hg5, put_get, if_pos rfl, ← hps]
      simp [List.map_take, List.map_drop]
    generalize (rs.map partT).map D.str = PD at q3' q4 hg5 lP
    have a62 : at_ < 4611686018427387904 := by omega
    have hi' : at_.toNat = i := by omega
    (rw [show Z.S.from LB 6 = .seq (Z.S.from LB 6).hd (Z.S.from LB 7) from rfl]; generalize hKK : Z.S.from LB 7 = KK; simp_arith! [LB, F_law, Z.S.bd, Z.S.hd, Z.S.tl, Z.S.from, w6, ec13, hat, mp, e5, q3', q4, lP, ab, a62, hi', hg5]; subst hKK)
    have w66 : ¬ w = 6 := by omega
    (rw [show Z.S.from LB 7 = .seq (Z.S.from LB 7).hd (Z.S.from LB 8) from rfl]; generalize hKK : Z.S.from LB 8 = KK; simp_arith! [LB, F_law, Z.S.bd, Z.S.hd, Z.S.tl, Z.S.from, w66]; subst hKK)
    have pl : ps.length ≤ 100 := by rw [← hps]; simp; omega
    have p2 : ∀ p ∈ ps, p.length ≤ 2000 := by
      rw [← hps]
      intro p hp
      rcases List.mem_append.mp hp with hp | hp
      · obtain ⟨r, hr, rfl⟩ := List.mem_map.mp hp
        exact (PT r (List.mem_of_mem_take hr)).1
      · rcases List.mem_cons.mp hp with rfl | hp
        · exact oz.l
        · obtain ⟨r, hr, rfl⟩ := List.mem_map.mp hp
          exact (PT r (List.mem_of_mem_drop hr)).1
    have pn : ∀ p ∈ ps, NoSep p.cps.toList := by
      rw [← hps]
      intro p hp
      rcases List.mem_append.mp hp with hp | hp
      · obtain ⟨r, hr, rfl⟩ := List.mem_map.mp hp
        exact (PT r (List.mem_of_mem_take hr)).2.1
      · rcases List.mem_cons.mp hp with rfl | hp
        · exact oz.s
        · obtain ⟨r, hr, rfl⟩ := List.mem_map.mp hp
          exact (PT r (List.mem_of_mem_drop hr)).2.1
    have pe : ps ≠ [Str.ofString ""] := by
      intro e
      have l1 : ps.length = 1 := by rw [e]; rfl
      have l2 : ps.length = rs.length + 1 := by rw [← hps]; simp; omega
      have r0 : rs = [] := List.eq_nil_of_length_eq_zero (by omega)
      rw [← hps, r0] at e
      have ez : z = Str.ofString "" := by simpa using e
      have := oz.e (by rw [ez]; decide +kernel)
      omega
    obtain ⟨s1, s2, s3⟩ := join_err m ps (by rw [← hps]; simp) pl p2 pn pe
    have j : bmD .join (.str (Str.ofString "; ")) [.ref C] g5 = some (.ok (.str (Txt.join (Str.ofString "; ") ps)), g5) := bm_join q5 (by have := oddsum p2 pl; omega)
    generalize Txt.join (Str.ofString "; ") ps = t at j s1 s2 s3
    (rw [show Z.S.from LB 8 = .seq (Z.S.from LB 8).hd (Z.S.from LB 9) from rfl]; generalize hKK : Z.S.from LB 9 = KK; simp_arith! [LB, F_law, Z.S.bd, Z.S.hd, Z.S.tl, Z.S.from, j]; subst hKK)
    refine law_bad _ t _ _ _ _ _ _ _ _ w (by omega) fun g => ?_
    have tk : ∀ r ∈ rs.take i, RR (partT r) (some r) := fun r hr => (PT r (List.mem_of_mem_take hr)).2.2.1
    have dk : ∀ r ∈ rs.drop i, RR (partT r) (some r) := fun r hr => (PT r (List.mem_of_mem_drop hr)).2.2.1
    have lt : (rs.take i).length ≤ 1000 := by rw [List.length_take]; omega
    rcases oz.r with rz | ⟨r, rz, rb⟩
    · refine c_read_no2 1 g t ((rs.take i).map fun r => (partT r, r)) z ((rs.drop i).map partT) s2 s3 (by rw [s1, ← hps, List.map_map]; rfl) (fun q hq => ?_) (by rw [List.length_map]; exact lt) rz
      obtain ⟨r, hr, rfl⟩ := List.mem_map.mp hq
      exact tk r hr
    · refine c_read_no1 1 g t ((rs.take i).map (fun r => (partT r, r)) ++ (z, r) :: (rs.drop i).map fun r => (partT r, r)) s2 s3 (by rw [s1, ← hps, List.map_append, List.map_cons, List.map_map, List.map_map]; rfl) (fun q hq => ?_) (by simp; omega) ?_
      · rcases List.mem_append.mp hq with hq | hq
        · obtain ⟨r, hr, rfl⟩ := List.mem_map.mp hq
          exact tk r hr
        · rcases List.mem_cons.mp hq with rfl | hq
          · exact rz
          · obtain ⟨r, hr, rfl⟩ := List.mem_map.mp hq
            exact dk r hr
      · have el : (((rs.take i).map (fun r => (partT r, r)) ++ (z, r) :: (rs.drop i).map fun r => (partT r, r)).map (·.2)).length = rs.length + 1 := by simp; omega
        rw [Bool.and_eq_false_iff]
        right
        rw [el, Bool.eq_false_iff]
        intro y
        rw [List.all_eq_true] at y
        have := y r (by simp)
        rw [show ((rs.length + 1 : Nat) : Int) = m by omega, rb] at this
        cases this
  · (rw [show Z.S.from LB 6 = .seq (Z.S.from LB 6).hd (Z.S.from LB 7) from rfl]; generalize hKK : Z.S.from LB 7 = KK; simp_arith! [LB, F_law, Z.S.bd, Z.S.hd, Z.S.tl, Z.S.from, w6]; subst hKK)
    by_cases w66 : w = 6
    · -- too many rows
      obtain ⟨k, hk⟩ : ∃ k, v % 9 = k := ⟨_, rfl⟩
      obtain ⟨N, hN⟩ : ∃ N : Nat, 61 + k = (N : Int) := ⟨(61 + k).toNat, by omega⟩
      have Nb : 61 ≤ N ∧ N ≤ 69 := by omega
      have e7 : ∃ g4, ev PR (callF PR 6) (.comp (.con (.str "drop")) [10] (.name 10) .range1 (.cons (.bin .add (.con (.int 61)) (.bin .mod (.var 3) (.con (.int 9)))) (.nil)) (.yes)) [some (.ref 0), some (.ref A), some (.int m), some (.int v), some (.ref B), some (.ref C), some (.int w), none, none, none, none] g3 = some (.ok (.ref g3.next), g4) ∧ Gro g3 g4 ∧ g3.next < g4.next ∧ g4.get g3.next = some (.lst ((List.range N).map fun _ => D.str (Str.ofString "drop"))) := by
        obtain ⟨g4, e, r, l, z⟩ := compL_gro (fe := fun e1 h2 => ev PR (callF PR 6) (.con (.str "drop")) e1 h2) (ft := fun e1 h2 => evT PR (callF PR 6) .yes e1 h2) (g := .name 10) (gd := []) (env := [some (.ref 0), some (.ref A), some (.int m), some (.int v), some (.ref B), some (.ref C), some (.int w), none, none, none, none]) (h := g3) (cs := List.range N) (fun (i : Nat) => D.int (i : Int)) (fun _ => D.str (Str.ofString "drop")) (fun h' g' => stays_nil _) (fun r hr => ⟨_, rfl, fun h' g' _ => ⟨by simp_arith [], h', by simp_arith [], .refl⟩⟩) (by rw [List.length_range]; omega)
        refine ⟨g4, ?_, r, l, z⟩
        rw [comp_ev (h1 := g3) (vs := [.int (N : Int)]) (gd := []) (items := (List.range N).map fun (i : Nat) => D.int (i : Int)) (by rw [← hN]; simp_arith [hk]) (by simp_arith []) rfl]
        exact e
      obtain ⟨g4, e7, gr4, l4, q4⟩ := e7
      obtain ⟨CE3, hCE3⟩ : ∃ CE, E.comp (.con (.str "drop")) [10] (.name 10) .range1 (.cons (.bin .add (.con (.int 61)) (.bin .mod (.var 3) (.con (.int 9)))) (.nil)) (.yes) = CE := ⟨_, rfl⟩
      rw [hCE3] at e7
      have x7 : ex PR (callF PR 6) (LB.from 7) [some (.ref 0), some (.ref A), some (.int m), some (.int v), some (.ref B), some (.ref C), some (.int w), none, none, none, none] g3 = ex PR (callF PR 6) (LB.from 8) [some (.ref 0), some (.ref A), some (.int m), some (.int v), some (.ref B), some (.ref g3.next), some (.int w), none, none, none, none] g4 := by
        rw [show LB.from 7 = .seq (.ite (.cmp .eq (.var 6) (.con (.int 6))) (.asg 5 CE3) (.skip)) (LB.from 8) from by rw [← hCE3]; rfl]
        generalize LB.from 8 = KK
        rw [w66] at e7
        simp_arith! [w66, e7]
      rw [x7]
      obtain ⟨ps, hps⟩ : ∃ ps, (List.range N).map (fun _ => Str.ofString "drop") = ps := ⟨_, rfl⟩
      have q5 : g4.get g3.next = some (.lst (ps.map D.str)) := by rw [q4, ← hps, List.map_map]; rfl
      have pl : ps.length ≤ 100 := by rw [← hps]; simp; omega
      have pd : ∀ p ∈ ps, p = Str.ofString "drop" := by
        rw [← hps]
        intro p hp
        obtain ⟨r, hr, rfl⟩ := List.mem_map.mp hp
        rfl
      have p2 : ∀ p ∈ ps, p.length ≤ 2000 := fun p hp => by rw [pd p hp]; decide +kernel
      have pn : ∀ p ∈ ps, NoSep p.cps.toList := fun p hp => by rw [pd p hp]; exact .free (by decide +kernel)
      have pl2 : ps.length = N := by rw [← hps]; simp
      have pe : ps ≠ [Str.ofString ""] := by
        intro e
        have : ps.length = 1 := by rw [e]; rfl
        omega
      obtain ⟨s1, s2, s3⟩ := join_err m ps (by intro z; rw [z] at pl2; simp at pl2; omega) pl p2 pn pe
      have j : bmD .join (.str (Str.ofString "; ")) [.ref g3.next] g4 = some (.ok (.str (Txt.join (Str.ofString "; ") ps)), g4) := bm_join q5 (by have := oddsum p2 pl; omega)
      generalize Txt.join (Str.ofString "; ") ps = t at j s1 s2 s3
      (rw [show Z.S.from LB 8 = .seq (Z.S.from LB 8).hd (Z.S.from LB 9) from rfl]; generalize hKK : Z.S.from LB 9 = KK; simp_arith! [LB, F_law, Z.S.bd, Z.S.hd, Z.S.tl, Z.S.from, j]; subst hKK)
      refine law_bad _ t _ _ _ _ _ _ _ _ w (by omega) fun g => ?_
      refine c_read_no1 1 g t (ps.map fun p => (p, ("drop", none))) s2 s3 (by rw [s1, List.map_map]; simp [Function.comp_def]) (fun q hq => ?_) (by rw [List.length_map]; omega) ?_
      · obtain ⟨p, hp, rfl⟩ := List.mem_map.mp hq
        rw [pd p hp]
        exact rr_bare0 (w := "drop") (x := (Txt.partition (Str.ofString "drop") (Str.ofString " ")).2.1) (y := (Txt.partition (Str.ofString "drop") (Str.ofString " ")).2.2) (by decide +kernel) (by decide +kernel) (by decide)
      · rw [Bool.and_eq_false_iff]
        left
        rw [decide_eq_false_iff_not, List.length_map, List.length_map]
        omega
    · -- read as it is
      (rw [show Z.S.from LB 7 = .seq (Z.S.from LB 7).hd (Z.S.from LB 8) from rfl]; generalize hKK : Z.S.from LB 8 = KK; simp_arith! [LB, F_law, Z.S.bd, Z.S.hd, Z.S.tl, Z.S.from, w66]; subst hKK)
      have j := join_ok g3 C (m := 100) (by omega) rm (by omega) q3'
      obtain ⟨t, ht⟩ : ∃ t, txt rs = t := ⟨_, rfl⟩
      rw [ht] at j
      (rw [show Z.S.from LB 8 = .seq (Z.S.from LB 8).hd (Z.S.from LB 9) from rfl]; generalize hKK : Z.S.from LB 9 = KK; simp_arith! [LB, F_law, Z.S.bd, Z.S.hd, Z.S.tl, Z.S.from, j]; subst hKK)
      obtain ⟨g4, e9, gr4, q4, l4⟩ := c_read 2 g3 (rs := rs) (fun r hr => all1 r hr _ (by omega)) (by omega)
      rw [ht] at e9
      have q24 := gr4.get q23 (by omega)
      have w1 := c_rows 4 g3.next B rs g4 (by omega) q4 q24
      have w7 : ¬ w < 7 := by omega
      (rw [show Z.S.from LB 9 = .seq (Z.S.from LB 9).hd (Z.S.from LB 10) from rfl]; generalize hKK : Z.S.from LB 10 = KK; simp_arith! [LB, F_law, Z.S.bd, Z.S.hd, Z.S.tl, Z.S.from, w7]; subst hKK)
      simp_arith! [LB, F_law, Z.S.bd, Z.S.hd, Z.S.tl, Z.S.from, e9, w1]
      exact ⟨_, rfl⟩
theorem law_ok (ns : List Int) (hl : ns.length ≤ 63) : ∃ h', callF PR (6 + 1) "law" [.ref 0] (h0 ns) = some (.ok (.bl true), h') := by
  rw [callF_eq fn_law rfl]
  exact law_go ns hl (h0 ns) rfl (Nat.zero_lt_succ 0)

end K09
end Z

theorem PySem.Challenge.cw_meterhouse_k09_texts_refused_holds : PySem.Challenge.rw_meterhouse_k09_texts_refused.Holds := by
  exact Z.K09.holds_of 6 (by decide) fun ns hl => Z.K09.law_ok ns hl
