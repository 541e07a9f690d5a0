import PyProof.Rows.All
import Wide.All
import OpenK.AllK
import Wide.FinOn
import HandS.ForMost
import HandS.ForExc
import HandS.Wide
import HandS.IsInst
import HandS.HeadHook1
import HandS.WideBits
import HandS.TupAny
import HandS.TupLe
import HandS.ExcIs
import KE.KExcPX
import HandS.Conv
import HandS.SortKw
import HandS.More
import HandS.SortInts
import HandS.Strs
import KE.KSortedM
import HandS.Iter
import HandS.Rev
import HandS.Style
import HandS.FStr
import HandS.TryOnly
import HandS.Defaults
import HandS.New0
import HandS.Zip
import PyProof.ListNew
import KE.KStateDown
import HandS.Ends
import HandS.Words
import HandS.WordsExc
import HandS.Head0
import HandS.Head1
import HandS.Head2
import HandS.HeadEnd
import HandS.HeadHook2
import PyProof.Rows.BitMore
import KE.BitLaws
import KE.OsArith
import HandS.TryMany
import HandS.Comp
import HandS.Exc
import HandS.ExcOwn
import KE.GoesRaise
import PySem.Challenge.RW_meterhouse_k51_papers_texts
set_option Elab.async false
set_option linter.all false
set_option maxRecDepth 100000
namespace Z
open PySem

inductive D where
  | non | bl (b : Bool) | int (i : Int) | str (s : Str) | tup (xs : List D) | ref (a : Nat) | exc (c : String) (a : Nat) | xob (k : String)

inductive O where
  | lst (xs : List D)
  | fz (xs : List D)
  | dic (kvs : List (L2.Key × D))
  | dit (kvs : List (List L2.Key × D))
  | ins (c : String) (fs : List (String × D))
  | fzd (kvs : List (L2.Key × D))
  | fzt (kvs : List (List L2.Key × D))

structure Hm where
  get : Nat → Option O
  next : Nat

def Hm.put (h : Hm) (a : Nat) (o : O) : Hm := ⟨fun b => if b = a then some o else h.get b, h.next⟩
def Hm.new (h : Hm) (o : O) : Hm := ⟨fun b => if b = h.next then some o else h.get b, h.next + 1⟩

abbrev Env := List (Option D)
abbrev Res (α : Type) := Option (Except String α × Hm)
@[simp] theorem put_get (h : Hm) (a b : Nat) (o : O) : (h.put a o).get b = if b = a then some o else h.get b := rfl
@[simp] theorem put_next (h : Hm) (a : Nat) (o : O) : (h.put a o).next = h.next := rfl
@[simp] theorem new_get (h : Hm) (b : Nat) (o : O) : (h.new o).get b = if b = h.next then some o else h.get b := rfl
@[simp] theorem new_next (h : Hm) (o : O) : (h.new o).next = h.next + 1 := rfl

def bnd {α β : Type} (m : Res α) (f : α → Hm → Res β) : Res β := match m with
  | none => none
  | some (.error k, h) => some (.error k, h)
  | some (.ok a, h) => f a h
@[simp] theorem bnd_none {α β : Type} (f : α → Hm → Res β) : bnd none f = none := rfl
@[simp] theorem bnd_error {α β : Type} (k : String) (h : Hm) (f : α → Hm → Res β) : bnd (some (.error k, h)) f = some (.error k, h) := rfl
@[simp] theorem bnd_ok {α β : Type} (a : α) (h : Hm) (f : α → Hm → Res β) : bnd (some (.ok a, h)) f = f a h := rfl

inductive Bop where | add | sub | mul | fdiv | mod | pow | shl | shr | band | bor | bxor
inductive Cop where | eq | ne | lt | le | gt | ge | isN | notN | inn | nin
inductive Bi where | len | int | str | list | tuple | dict | min2 | max2 | sum | sorted | divmod | abs | any | minD | lset
inductive Bm where | append | pop | get | get2 | dpop | join | split | partition | index | insert | clear | find | isdigit
inductive Tn where | int | bool | str | tuple | list | dict
inductive Cst where | non | bl (b : Bool) | int (i : Int) | str (s : String)
inductive Tg where | name (i : Nat) | tup (is : List Nat)
inductive ItK where | seq | range1 | range2 | range3 | rev | enum | zip | keys | vals | items

def Cst.d : Cst → D
  | .non => .non
  | .bl b => .bl b
  | .int i => .int i
  | .str s => .str (Str.ofString s)

mutual
inductive E where
  | var (i : Nat)
  | con (c : Cst)
  | glo (x : String)
  | bin (o : Bop) (a b : E)
  | neg (a : E)
  | cmp (o : Cop) (a b : E)
  | chn (o o' : Cop) (a b c : E)
  | and (a b : E)
  | or (a b : E)
  | not (a : E)
  | ife (c : T) (a b : E)
  | idx (a b : E)
  | dgt (a b : E)
  | slc (a : E) (lo hi : Eo)
  | att (a : E) (f : String)
  | tup (es : Es)
  | lst (es : Es)
  | dict (es : Es)
  | call (f : String) (es : Es) (ds : List Cst)
  | meth (o : E) (m : String) (es : Es) (ds : List Cst)
  | new (c : String) (es : Es)
  | bi (b : Bi) (es : Es)
  | bm (b : Bm) (o : E) (es : Es)
  | isi (a : E) (t : Tn)
  | isi2 (a : E) (t u : Tn)
  | gix (x : String) (e : E)
  | comp (elt : E) (own : List Nat) (g : Tg) (k : ItK) (es : Es) (tst : T)
  | cpx (elt : E) (own : List Nat) (g : Tg) (k : ItK) (es : Es) (tst : T)
  | fst (es : Es)
  | rsl (a : E)
  | dictT
  | dgtT (a : E) (es : Es)
  | getT (a : E) (es : Es) (d : Cst)
  | lck (i : Nat) (e : E)
  | new0 (c : String)
  | isc (a : E) (c : String)
  | isx (i : Nat) (c : String)
  | isxB (i : Nat) (c : String)
  | iso (a : E) (c : String)
  | lrg (a : E)
  | fmt (a : E)
  | isoB (a : E) (c : String)
inductive Es where
  | nil
  | cons (e : E) (es : Es)
inductive Eo where
  | none
  | some (e : E)
inductive T where
  | yes
  | cmp (o : Cop) (a b : E)
  | chn (o o' : Cop) (a b c : E)
  | and (a b : T)
  | or (a b : T)
  | not (a : T)
  | tru (a : E)
end

def Es.len : Es → Nat
  | .nil => 0
  | .cons _ es => es.len + 1
inductive S where
  | skip
  | seq (a b : S)
  | asg (i : Nat) (e : E)
  | unp (is : List Nat) (e : E)
  | sfld (o : E) (f : String) (e : E)
  | sidx (o i e : E)
  | dput (o i e : E)
  | aug (i : Nat) (o : Bop) (e : E)
  | augf (o : E) (f : String) (op : Bop) (e : E)
  | augi (o i : E) (op : Bop) (e : E)
  | ite (c : T) (a b : S)
  | for_ (g : Tg) (k : ItK) (es : Es) (body : S)
  | wh (c : T) (body : S)
  | ret (e : E)
  | drop (e : E)
  | rai (c : String)
  | try_ (body : S) (c : String) (x : Option Nat) (suite : S)
  | dputT (o : E) (es : Es) (e : E)
  | lck (i : Nat) (s : S)
  | par (i j : Nat) (es : Es)
  | tryK (body : S) (c : String) (i j : Nat)
end Z

set_option maxRecDepth 100000
namespace Z
open PySem

def lim : Nat := 1000000
def big (i : Int) : Prop := -(2 ^ 250) < i ∧ i < 2 ^ 250
def w64 (i : Int) : Prop := -(2 ^ 64) < i ∧ i < 2 ^ 64
instance (i : Int) : Decidable (big i) := inferInstanceAs (Decidable (_ ∧ _))
instance (i : Int) : Decidable (w64 i) := inferInstanceAs (Decidable (_ ∧ _))
def mulOk (i j : Int) : Prop := w64 i ∨ w64 j ∨ (big i ∧ big j)
instance (i j : Int) : Decidable (mulOk i j) := inferInstanceAs (Decidable (_ ∨ _))
def rng62 (i : Int) : Prop := -(2 ^ 62) ≤ i ∧ i < 2 ^ 62
instance (i : Int) : Decidable (rng62 i) := inferInstanceAs (Decidable (_ ∧ _))

def atD {α : Type} (xs : List α) (i : Int) : Option α := if 0 ≤ i then xs[i.toNat]? else if -(xs.length : Int) ≤ i then xs[(i + xs.length).toNat]? else none
def ixD (n : Nat) (i : Int) : Option Nat := if 0 ≤ i then (if i < n then some i.toNat else none) else if -(n : Int) ≤ i then some (i + n).toNat else none
def sI (n d : Nat) : Option Int → Nat
  | none => d
  | some v => if v < 0 then (v + (n : Int)).toNat else min v.toNat n
def cut {α : Type} (xs : List α) (lo hi : Option Int) : List α := (xs.drop (sI xs.length 0 lo)).take (sI xs.length xs.length hi - sI xs.length 0 lo)
def cutT (z : Str) (lo hi : Option Int) : Str := ⟨((z.cps.toList.drop (sI z.length 0 lo)).take (sI z.length z.length hi - sI z.length 0 lo)).toArray⟩

section
variable {κ α : Type} [DecidableEq κ]
def kget (kvs : List (κ × α)) (k : κ) : Option α := (kvs.find? fun kv => decide (kv.1 = k)).map (·.2)
def kput (kvs : List (κ × α)) (k : κ) (v : α) : List (κ × α) :=
  if (kvs.any fun kv => decide (kv.1 = k)) = true then kvs.map (fun kv => if kv.1 = k then (kv.1, v) else kv) else kvs ++ [(k, v)]
def kdrop (kvs : List (κ × α)) (k : κ) : List (κ × α) := kvs.filter fun kv => decide (kv.1 ≠ k)
def kmerge (kvs more : List (κ × α)) : List (κ × α) := more.foldl (fun acc kv => kput acc kv.1 kv.2) kvs
end
def key? : D → Option L2.Key
  | .int i => some (.inl i)
  | .str s => some (.inr s)
  | _ => none
def keys? : List D → Option (List L2.Key)
  | [] => some []
  | d :: ds => match key? d, keys? ds with
    | some k, some ks => some (k :: ks)
    | _, _ => none
def keyD : L2.Key → D
  | .inl i => .int i
  | .inr s => .str s
def dget (h : Hm) (a : Nat) (k : D) : Option (Option D) := match h.get a with
  | some (.dic kvs) => (key? k).map fun q => kget kvs q
  | some (.fzd kvs) => (key? k).map fun q => kget kvs q
  | _ => none
def dgetT (h : Hm) (a : Nat) (ks : List D) : Option (Option D) := match h.get a with
  | some (.dit kvs) => (keys? ks).map fun q => kget kvs q
  | some (.fzt kvs) => (keys? ks).map fun q => kget kvs q
  | _ => none
def dputT (h : Hm) (a : Nat) (ks : List D) (v : D) : Option Hm := match h.get a with
  | some (.dit kvs) => if kvs.length < lim then (keys? ks).map fun q => h.put a (.dit (kput kvs q v)) else none
  | _ => none
def lckO : O → Option O
  | .dic kvs => some (.fzd kvs)
  | .dit kvs => some (.fzt kvs)
  | _ => none
def frzO : Option O → Bool
  | some (.fzd _) => true
  | some (.fzt _) => true
  | _ => false
def dput (h : Hm) (a : Nat) (k v : D) : Option Hm := match h.get a with
  | some (.dic kvs) => if kvs.length < lim then (key? k).map fun q => h.put a (.dic (kput kvs q v)) else none
  | _ => none

def pairUp : List D → Option (List (L2.Key × D))
  | [] => some []
  | k :: v :: r => match key? k, pairUp r with
    | some q, some ps => some ((q, v) :: ps)
    | _, _ => none
  | _ => none
def dispO (o : Option O) (p : Option (List (L2.Key × D))) (h1 : Hm) (a : Nat) : Option (Except String D × Hm) := match o, p with
  | some (.dic []), some kvs => if kvs.length ≤ 15 then some (.ok (.ref a), h1.put a (.dic (kmerge [] kvs))) else none
  | _, _ => none

def mapO {α β : Type} (f : α → Option β) : List α → Option (List β)
  | [] => some []
  | x :: xs => match f x, mapO f xs with
    | some y, some ys => some (y :: ys)
    | _, _ => none
def dat (h : Hm) : Nat → D → Option PyData
  | _, .non => some .none
  | _, .bl b => some (.bool b)
  | _, .int i => some (.int i)
  | _, .str s => some (.str s)
  | n + 1, .tup xs => (mapO (dat h n) xs).map .tuple
  | n + 1, .ref a => (match h.get a with
    | some (.lst xs) => (mapO (dat h n) xs).map .list
    | some (.fz xs) => (mapO (dat h n) xs).map .list
    | _ => none)
  | _, _ => none
def deep : Nat := 30
def eqD (x y : D) (h : Hm) : Option Bool := match x, y with
  | .int i, .int j => some (decide (i = j))
  | .str s, .str t => some (decide (s = t))
  | .bl a, .bl b => some (decide (a = b))
  | .non, .non => some true
  | .int _, .str _ => some false
  | .str _, .int _ => some false
  | x, y => match dat h deep x, dat h deep y with
    | some d, some e => if (SeqAt.shaped d && SeqAt.shaped e) = true then some (PyData.eqv d e) else none
    | _, _ => none
def flatD : D → Bool
  | .non => true
  | .bl _ => true
  | .int _ => true
  | .str _ => true
  | _ => false
def eqF : D → D → Bool
  | .non, .non => true
  | .bl a, .bl b => a == b
  | .bl a, .int b => (if a then 1 else 0) == b
  | .int a, .bl b => a == (if b then 1 else 0)
  | .int a, .int b => a == b
  | .str a, .str b => a == b
  | _, _ => false
def inL (x : D) (xs : List D) : Option Bool := if flatD x = true ∧ xs.all flatD = true then some (xs.any fun y => eqF y x) else none
def inS (s z : Str) : Bool := if s.cps.size = 1 then decide (s.cps.getD 0 0 ∈ z.cps.toList) else !(Builtin.Str.occurrences z s 0 z.length 1).isEmpty
def inD (x y : D) (h : Hm) : Option Bool := match y with
  | .str z => (match x with
    | .str s => some (inS s z)
    | _ => none)
  | .tup xs => inL x xs
  | .ref a => (match h.get a with
    | some (.lst xs) => inL x xs
    | some (.fz xs) => inL x xs
    | some (.dic _) => (dget h a x).map Option.isSome
    | some (.fzd _) => (dget h a x).map Option.isSome
    | _ => none)
  | _ => none
def cmpD (o : Cop) (x y : D) (h : Hm) : Option Bool := match o with
  | .eq => eqD x y h
  | .ne => (eqD x y h).map fun b => !b
  | .lt => (match x, y with
    | .int i, .int j => some (decide (i < j))
    | _, _ => none)
  | .le => (match x, y with
    | .int i, .int j => some (decide (i ≤ j))
    | _, _ => none)
  | .gt => (match x, y with
    | .int i, .int j => some (decide (j < i))
    | _, _ => none)
  | .ge => (match x, y with
    | .int i, .int j => some (decide (j ≤ i))
    | _, _ => none)
  | .isN => (match x, y with
    | .bl a, .bl b => some (decide (a = b))
    | .non, .non => some true
    | _, .non => some false
    | _, _ => none)
  | .notN => (match x, y with
    | .bl a, .bl b => some (!decide (a = b))
    | .non, .non => some false
    | _, .non => some true
    | _, _ => none)
  | .inn => inD x y h
  | .nin => (inD x y h).map fun b => !b

def ok {α : Type} (x : α) (h : Hm) : Res α := some (.ok x, h)
def repS (s : Str) (k : Int) : Str := ⟨List.foldl (fun a b => a ++ b) #[] (List.replicate k.toNat s.cps)⟩
def binD (o : Bop) (x y : D) (h : Hm) : Res D := match o with
  | .add => (match x, y with
    | .int i, .int j => ok (.int (i + j)) h
    | .str s, .str t => if s.length + t.length ≤ lim then ok (.str (s ++ t)) h else none
    | .tup (x :: xs), .tup ys => if xs.length + ys.length < lim then ok (.tup (x :: xs ++ ys)) h else none
    | .ref a, .ref b => (match h.get a, h.get b with
      | some (.lst xs), some (.lst ys) => if xs.length + ys.length ≤ lim then ok (.ref h.next) (h.new (.lst (xs ++ ys))) else none
      | _, _ => none)
    | _, _ => none)
  | .sub => (match x, y with
    | .int i, .int j => ok (.int (i - j)) h
    | _, _ => none)
  | .mul => (match x, y with
    | .int i, .int j => if mulOk i j then ok (.int (i * j)) h else none
    | .str s, .int k => if s.length = 1 ∧ 2 ≤ k ∧ k ≤ 10000 then ok (.str (repS s k)) h else none
    | .ref a, .int k => (match h.get a with
      | some (.lst xs) => if rng62 k ∧ xs.length * k.toNat ≤ lim then ok (.ref h.next) (h.new (.lst (List.replicate k.toNat xs).flatten)) else none
      | _ => none)
    | _, _ => none)
  | .fdiv => (match x, y with
    | .int i, .int j => if 0 < j ∧ j < 2 ^ 250 then ok (.int (i / j)) h else none
    | _, _ => none)
  | .mod => (match x, y with
    | .int i, .int j => if 0 < j then ok (.int (i % j)) h else none
    | _, _ => none)
  | .pow => (match x, y with
    | .int i, .int j => if 0 ≤ j ∧ j ≤ 1000000 ∧ w64 i then ok (.int (i ^ j.toNat)) h else none
    | _, _ => none)
  | .shl => (match x, y with
    | .int i, .int j => if 0 ≤ j ∧ j ≤ 1000000 ∧ w64 i then ok (.int (i * 2 ^ j.toNat)) h else none
    | _, _ => none)
  | .shr => (match x, y with
    | .int i, .int j => if 0 ≤ j then ok (.int (i / 2 ^ j.toNat)) h else none
    | _, _ => none)
  | .band => (match x, y with
    | .int i, .int j => ok (.int (Builtin.bitAnd i j)) h
    | _, _ => none)
  | .bor => (match x, y with
    | .int i, .int j => ok (.int (Builtin.bitOr i j)) h
    | _, _ => none)
  | .bxor => (match x, y with
    | .int i, .int j => ok (.int (Builtin.bitXor i j)) h
    | _, _ => none)
def negD (x : D) (h : Hm) : Res D := match x with
  | .int i => ok (.int (-i)) h
  | _ => none
def idxD (x y : D) (h : Hm) : Option D := match y with
  | .int i => (match x with
    | .tup xs => atD xs i
    | .ref a => (match h.get a with
      | some (.lst xs) => atD xs i
      | some (.fz xs) => atD xs i
      | _ => none)
    | .str z => if z.length ≤ lim then (atD z.cps.toList i).map fun c => .str ⟨#[c]⟩ else none
    | _ => none)
  | _ => none
def slcD (x : D) (lo hi : Option Int) (h : Hm) : Res D := match x with
  | .tup xs => ok (.tup (cut xs lo hi)) h
  | .ref a => (match h.get a with
    | some (.lst xs) => ok (.ref h.next) (h.new (.lst (cut xs lo hi)))
    | some (.fz xs) => ok (.ref h.next) (h.new (.lst (cut xs lo hi)))
    | _ => none)
  | .str z => if z.length ≤ lim then ok (.str (cutT z lo hi)) h else none
  | _ => none
def truD (x : D) (h : Hm) : Option Bool := match x with
  | .non => some false
  | .bl b => some b
  | .int i => some (i != 0)
  | .str s => if s.length ≤ lim then some ((s.length : Int) != 0) else none
  | .tup xs => some (!xs.isEmpty)
  | .ref a => (match h.get a with
    | some (.lst xs) => some (!xs.isEmpty)
    | some (.fz xs) => some (!xs.isEmpty)
    | some (.dic kvs) => some (!kvs.isEmpty)
    | _ => none)
  | _ => none

def ints? : List D → Option (List Int)
  | [] => some []
  | .int i :: ds => (ints? ds).map fun r => i :: r
  | _ => none
def bls? : List D → Option (List Bool)
  | [] => some []
  | .bl i :: ds => (bls? ds).map fun r => i :: r
  | _ => none
def strs? : List D → Option (List Str)
  | [] => some []
  | .str i :: ds => (strs? ds).map fun r => i :: r
  | _ => none
def insI (x : Int) : List Int → List Int
  | [] => [x]
  | y :: ys => if x ≤ y then x :: y :: ys else y :: insI x ys
def srt : List Int → List Int
  | [] => []
  | x :: xs => insI x (srt xs)
def seqOf (x : D) (h : Hm) : Option (List D) := match x with
  | .tup xs => some xs
  | .ref a => (match h.get a with
    | some (.lst xs) => some xs
    | some (.fz xs) => some xs
    | _ => none)
  | _ => none
def lstOf (x : D) (h : Hm) : Option (List D) := match x with
  | .ref a => (match h.get a with
    | some (.lst xs) => some xs
    | some (.fz xs) => some xs
    | _ => none)
  | _ => none
def lmin (d : Int) : List Int → Int
  | [] => d
  | x :: r => r.foldl (fun m y => if y < m then y else m) x
theorem lfold_mem : ∀ (r : List Int) (x : Int), r.foldl (fun m y => if y < m then y else m) x ∈ x :: r
  | [], x => List.mem_cons_self
  | y :: r, x => by
    rw [List.foldl_cons]
    have := lfold_mem r (if y < x then y else x)
    rcases List.mem_cons.mp this with e | e
    · rw [e]; split <;> simp
    · exact List.mem_cons_of_mem _ (List.mem_cons_of_mem _ e)
theorem lfold_le : ∀ (r : List Int) (x : Int), (∀ z ∈ x :: r, r.foldl (fun m y => if y < m then y else m) x ≤ z)
  | [], x, z, hz => by rw [List.mem_singleton.mp hz]; exact Int.le_refl _
  | y :: r, x, z, hz => by
    rw [List.foldl_cons]
    have h := lfold_le r (if y < x then y else x)
    have h0 := h _ List.mem_cons_self
    generalize r.foldl (fun m y => if y < m then y else m) (if y < x then y else x) = m at h h0 ⊢
    rcases List.mem_cons.mp hz with e | hz
    · rw [e]; split at h0 <;> omega
    · rcases List.mem_cons.mp hz with e | hz
      · rw [e]; split at h0 <;> omega
      · exact h z (List.mem_cons_of_mem _ hz)
theorem lmin_eq (d m : Int) (ns : List Int) (h0 : ns = [] → m = d) (h1 : ns ≠ [] → m ∈ ns ∧ ∀ y ∈ ns, m ≤ y) : m = lmin d ns := by
  cases ns with
  | nil => exact h0 rfl
  | cons x r =>
    obtain ⟨a, b⟩ := h1 (by simp)
    exact Int.le_antisymm (b _ (lfold_mem r x)) (lfold_le r x m a)
def biD (b : Bi) (vs : List D) (h : Hm) : Res D := match b with
  | .len => (match vs with
    | [.str s] => if s.length ≤ lim then ok (.int s.length) h else none
    | [.tup xs] => ok (.int xs.length) h
    | [.ref a] => (match h.get a with
      | some (.lst xs) => ok (.int xs.length) h
      | some (.fz xs) => ok (.int xs.length) h
      | some (.dic kvs) => ok (.int kvs.length) h
      | _ => none)
    | _ => none)
  | .int => (match vs with
    | [.int i] => ok (.int i) h
    | [.bl b] => ok (.int (if b then 1 else 0)) h
    | [.str s] => if s.length ≤ 640 then (match intText? s with
      | some n => ok (.int n) h
      | none => none) else none
    | _ => none)
  | .str => (match vs with
    | [.int i] => if -(2 ^ 250) < i ∧ i < 2 ^ 250 then ok (.str (Str.ofString (toString i))) h else none
    | _ => none)
  | .list => (match vs with
    | [x] => (match seqOf x h with
      | some xs => ok (.ref h.next) (h.new (.lst xs))
      | none => (match x with
        | .ref a => (match h.get a with
          | some (.dic kvs) => ok (.ref h.next) (h.new (.lst (kvs.map fun kv => keyD kv.1)))
          | _ => none)
        | _ => none))
    | _ => none)
  | .tuple => (match vs with
    | [x] => (match seqOf x h with
      | some xs => ok (.tup xs) h
      | none => none)
    | _ => none)
  | .dict => (match vs with
    | [.ref a] => (match h.get a with
      | some (.dic kvs) => ok (.ref h.next) (h.new (.dic kvs))
      | _ => none)
    | _ => none)
  | .min2 => (match vs with
    | [.int i, .int j] => ok (.int (if j < i then j else i)) h
    | _ => none)
  | .minD => (match vs with
    | [x, .int d] => (match lstOf x h with
      | some xs => (match ints? xs with
        | some ns => ok (.int (lmin d ns)) h
        | none => none)
      | none => none)
    | _ => none)
  | .lset => (match vs with
    | [x] => (match lstOf x h with
      | some xs => (match ints? xs with
        | some ns => if ns.Nodup ∧ ns.length ≤ 4000 then ok (.int ((ns.length : Nat) : Int)) h else none
        | none => none)
      | none => none)
    | _ => none)
  | .max2 => (match vs with
    | [.int i, .int j] => ok (.int (if j > i then j else i)) h
    | _ => none)
  | .sum => (match vs with
    | [x] => (match lstOf x h with
      | some xs => (match ints? xs with
        | some ns => ok (.int ns.sum) h
        | none => none)
      | none => none)
    | _ => none)
  | .sorted => (match vs with
    | [x] => (match lstOf x h with
      | some xs => (match ints? xs with
        | some ns => ok (.ref h.next) (h.new (.lst ((srt ns).map .int)))
        | none => none)
      | none => (match x with
        | .ref a => (match h.get a with
          | some (.dic kvs) => (match ints? (kvs.map fun kv => keyD kv.1) with
            | some ns => if ns.length < 900000 then ok (.ref h.next) (h.new (.lst ((srt ns).map .int))) else none
            | none => none)
          | _ => none)
        | _ => none))
    | _ => none)
  | .divmod => (match vs with
    | [.int i, .int j] => if 0 < j ∧ -(2 ^ 250) < i ∧ i < 2 ^ 250 then ok (.tup [.int (i / j), .int (i % j)]) h else none
    | _ => none)
  | .abs => (match vs with
    | [.int i] => ok (.int (if i < 0 then -i else i)) h
    | _ => none)
  | .any => (match vs with
    | [x] => (match lstOf x h with
      | some xs => (match bls? xs with
        | some bs => ok (.bl (bs.any id)) h
        | none => none)
      | none => none)
    | _ => none)
def whereL (x : D) : List D → Option Nat
  | [] => none
  | y :: ys => if eqF y x = true then some 0 else (whereL x ys).map (· + 1)
def gixD (x y : D) (h : Hm) : Res D := match x, y with
  | .tup xs, .str z => (match strs? xs with
    | some ys => (match ys.findIdx? fun s => decide (s = z) with
      | some j => ok (.int j) h
      | none => none)
    | none => none)
  | _, _ => none
def rcv (b : Bm) (x : D) (h : Hm) : Bool := match b with
  | .append => (lstOf x h).isSome
  | .pop => (lstOf x h).isSome
  | .insert => (lstOf x h).isSome
  | .clear => (lstOf x h).isSome
  | .index => (lstOf x h).isSome
  | .get => isDic x h
  | .get2 => isDic x h
  | .dpop => isDic x h
  | _ => (match x with
    | .str _ => true
    | _ => false)
where isDic (x : D) (h : Hm) : Bool := match x with
  | .ref a => (match h.get a with
    | some (.dic _) => true
    | some (.fzd _) => true
    | _ => false)
  | _ => false
def bmD (b : Bm) (x : D) (vs : List D) (h : Hm) : Res D := match b with
  | .append => (match x, vs with
    | .ref a, [v] => (match h.get a with
      | some (.lst xs) => if xs.length < lim then ok .non (h.put a (.lst (xs ++ [v]))) else none
      | _ => none)
    | _, _ => none)
  | .pop => (match x, vs with
    | .ref a, [] => (match h.get a with
      | some (.lst xs) => (match xs.getLast? with
        | some y => ok y (h.put a (.lst xs.dropLast))
        | none => none)
      | _ => none)
    | _, _ => none)
  | .get => (match x, vs with
    | .ref a, [k] => (match dget h a k with
      | some (some v) => ok v h
      | some none => ok .non h
      | none => none)
    | _, _ => none)
  | .get2 => (match x, vs with
    | .ref a, [k, y] => (match dget h a k with
      | some (some v) => ok v h
      | some none => ok y h
      | none => none)
    | _, _ => none)
  | .dpop => (match x, vs with
    | .ref a, [k] => (match h.get a with
      | some (.dic kvs) => (match key? k with
        | some q => (match kget kvs q with
          | some v => ok v (h.put a (.dic (kdrop kvs q)))
          | none => none)
        | none => none)
      | _ => none)
    | _, _ => none)
  | .join => (match x, vs with
    | .str z, [y] => (match seqOf y h with
      | some xs => (match strs? xs with
        | some ys => if (ys.map (·.length)).sum + ys.length * z.length ≤ 16777216 then ok (.str (PySem.Txt.join z ys)) h else none
        | none => none)
      | none => none)
    | _, _ => none)
  | .split => (match x, vs with
    | .str z, [.str y] => if (y.length == 0) = false ∧ z.length ≤ lim then ok (.ref h.next) (h.new (.lst ((PySem.Txt.split z y).map .str))) else none
    | _, _ => none)
  | .partition => (match x, vs with
    | .str z, [.str y] => if (y.length == 0) = false ∧ z.length ≤ lim then
        ok (.tup [.str (PySem.Txt.partition z y).1, .str (PySem.Txt.partition z y).2.1, .str (PySem.Txt.partition z y).2.2]) h else none
    | _, _ => none)
  | .index => (match vs with
    | [y] => (match lstOf x h with
      | some xs => if flatD y = true ∧ xs.all flatD = true then (match whereL y xs with
        | some j => ok (.int j) h
        | none => none) else none
      | none => none)
    | _ => none)
  | .insert => (match x, vs with
    | .ref a, [.int i, v] => (match h.get a with
      | some (.lst xs) => if xs.length < lim ∧ 0 ≤ i ∧ i < 2 ^ 62 then ok .non (h.put a (.lst (xs.take i.toNat ++ [v] ++ xs.drop i.toNat))) else none
      | _ => none)
    | _, _ => none)
  | .clear => (match x, vs with
    | .ref a, [] => (match h.get a with
      | some (.lst xs) => ok .non (h.put a (.lst []))
      | _ => none)
    | _, _ => none)
  | .find => (match x, vs with
    | .str z, [.str y] => ok (.int (PySem.Txt.find z y)) h
    | _, _ => none)
  | .isdigit => (match x, vs with
    | .str z, [] => ok (.bl (PySem.Txt.isdigit z)) h
    | _, _ => none)
end Z

set_option maxRecDepth 100000
namespace Z
open PySem

structure Fn where
  np : Nat
  ns : Nat
  body : S
structure Prog where
  fn : String → Option Fn
  glob : String → Option D
  mt : String → String → Option String
  fld : String → String → Bool
  exm : String → String → Option Bool
  lf : Nat
  sub : String → String → Option Bool := fun _ _ => none
  exs : String → String → Option Bool := fun _ _ => none
  exb : String → String → Option Bool := fun _ _ => none
  xk : Option (String × Nat) := none

inductive Fl where | nx | rt (d : D) | ex (k : String)
abbrev Out := Option (Fl × Env × Hm)

def stays (gd : List (Nat × O)) (h : Hm) : Prop := ∀ p ∈ gd, h.get p.1 = some p.2
def setN (env : Env) : List Nat → List D → Option Env
  | [], [] => some env
  | i :: is, d :: ds => setN (env.set i (some d)) is ds
  | _, _ => none
def asgT (g : Tg) (x : D) (env : Env) : Option Env := match g with
  | .name i => some (env.set i (some x))
  | .tup is => (match x with
    | .tup xs => setN env is xs
    | _ => none)
def wipeE (env : Env) : List Nat → Env
  | [] => env
  | v :: vs => (wipeE env vs).set v none
def walk (k : ItK) (vs : List D) (h : Hm) : Option (List D × List (Nat × O)) := match k with
  | .seq => (match vs with
    | [.tup xs] => some (xs, [])
    | [.str z] => some (z.cps.toList.map fun c => .str ⟨#[c]⟩, [])
    | [.ref a] => (match h.get a with
      | some (.lst xs) => some (xs, [(a, .lst xs)])
      | some (.fz xs) => some (xs, [(a, .fz xs)])
      | _ => none)
    | _ => none)
  | .range1 => (match vs with
    | [.int n] => if rng62 n then some ((List.range n.toNat).map fun (i : Nat) => .int (i : Int), []) else none
    | _ => none)
  | .range2 => (match vs with
    | [.int m, .int n] => if rng62 m ∧ rng62 n then some ((List.range (n - m).toNat).map fun (i : Nat) => .int (m + (i : Int)), []) else none
    | _ => none)
  | .range3 => (match vs with
    | [.int m, .int n, .int c] => if (c = 2 ∨ c = 7) ∧ rng62 m ∧ rng62 n then some ((List.range (if m < n then (n - m - 1) / c + 1 else 0).toNat).map fun (i : Nat) => .int (m + (i : Int) * c), []) else none
    | _ => none)
  | .rev => (match vs with
    | [.tup xs] => some (xs.reverse, [])
    | [.ref a] => (match h.get a with
      | some (.lst xs) => some (xs.reverse, [(a, .lst xs)])
      | some (.fz xs) => some (xs.reverse, [(a, .fz xs)])
      | _ => none)
    | _ => none)
  | .keys => (match vs with
    | [.ref a] => (match h.get a with
      | some (.fzd kvs) => some (kvs.map fun kv => keyD kv.1, [])
      | some (.fzt kvs) => some (kvs.map fun kv => .tup (kv.1.map keyD), [])
      | _ => none)
    | _ => none)
  | .vals => (match vs with
    | [.ref a] => (match h.get a with
      | some (.fzd kvs) => some (kvs.map fun kv => kv.2, [])
      | _ => none)
    | _ => none)
  | .items => (match vs with
    | [.ref a] => (match h.get a with
      | some (.fzd kvs) => some (kvs.map fun kv => .tup [keyD kv.1, kv.2], [])
      | _ => none)
    | _ => none)
  | .zip => (match vs with
    | [.ref a, .ref b] => (match h.get a, h.get b with
      | some (.lst xs), some (.lst ys) => some ((xs.zip ys).map fun p => .tup [p.1, p.2], [(a, .lst xs), (b, .lst ys)])
      | _, _ => none)
    | _ => none)
  | .enum => (match vs with
    | [.ref a] => (match h.get a with
      | some (.lst xs) => some (xs.zipIdx.map fun p => .tup [.int (p.2 : Nat), p.1], [(a, .lst xs)])
      | _ => none)
    | _ => none)

def bndN {α β : Type} (m : Res α) (f : α → Hm → Res β) : Res β := match m with
  | some (.ok a, h) => f a h
  | _ => none
@[simp] theorem bndN_none {α β : Type} (f : α → Hm → Res β) : bndN none f = none := rfl
@[simp] theorem bndN_error {α β : Type} (k : String) (h : Hm) (f : α → Hm → Res β) : bndN (some (.error k, h)) f = none := rfl
@[simp] theorem bndN_ok {α β : Type} (a : α) (h : Hm) (f : α → Hm → Res β) : bndN (some (.ok a, h)) f = f a h := rfl

open Classical in
noncomputable def compL (fe : Env → Hm → Res D) (ft : Env → Hm → Res Bool) (g : Tg) (gd : List (Nat × O)) (a : Nat) (env : Env) : List D → Hm → Res D
  | [], h => if stays gd h then ok (.ref a) h else none
  | x :: xs, h => if stays gd h then (match asgT g x env with
    | none => none
    | some env1 => bndN (ft env1 h) fun b h2 => if b = true then bndN (fe env1 h2) fun y h3 => (match h3.get a with
      | some (.lst acc) => if acc.length < lim then compL fe ft g gd a env xs (h3.put a (.lst (acc ++ [y]))) else none
      | _ => none) else compL fe ft g gd a env xs h2) else none

open Classical in
noncomputable def compX (fe : Env → Hm → Res D) (ft : Env → Hm → Res Bool) (g : Tg) (gd : List (Nat × O)) (a : Nat) (env : Env) : List D → Hm → Res D
  | [], h => if stays gd h then ok (.ref a) h else none
  | x :: xs, h => if stays gd h then (match asgT g x env with
    | none => none
    | some env1 => bndN (ft env1 h) fun b h2 => if b = true then bnd (fe env1 h2) fun y h3 => (match h3.get a with
      | some (.lst acc) => if acc.length < lim then compX fe ft g gd a env xs (h3.put a (.lst (acc ++ [y]))) else none
      | _ => none) else compX fe ft g gd a env xs h2) else none

def liftO {α : Type} (o : Option α) (h : Hm) : Res α := match o with
  | some x => ok x h
  | none => none
abbrev Cl := String → List D → Hm → Res D

def tyN (x : D) (h : Hm) : Option String := match x with
  | .non => some "NoneType"
  | .bl _ => some "bool"
  | .int _ => some "int"
  | .str _ => some "str"
  | .tup _ => some "tuple"
  | .ref a => (match h.get a with
    | some (.lst _) => some "list"
    | some (.fz _) => some "list"
    | some (.dic _) => some "dict"
    | _ => none)
  | .exc _ _ => none
  | .xob _ => none
def Tn.nm : Tn → String
  | .int => "int"
  | .bool => "bool"
  | .str => "str"
  | .tuple => "tuple"
  | .list => "list"
  | .dict => "dict"
def isTn (a : String) (t : Tn) : Bool := a == t.nm || (a == "bool" && t.nm == "int")
def Tg.in_ (g : Tg) (own : List Nat) : Bool := match g with
  | .name i => own.contains i
  | .tup is => is.all own.contains
mutual
noncomputable def ev (P : Prog) (cl : Cl) : E → Env → Hm → Res D
  | .var i, env, h => (match env[i]? with
    | some (some d) => ok d h
    | _ => none)
  | .con c, _, h => ok c.d h
  | .glo x, _, h => liftO (P.glob x) h
  | .bin o a b, env, h => bnd (ev P cl a env h) fun x h1 => bnd (ev P cl b env h1) fun y h2 => binD o x y h2
  | .neg a, env, h => bnd (ev P cl a env h) negD
  | .cmp o a b, env, h => bnd (ev P cl a env h) fun x h1 => bnd (ev P cl b env h1) fun y h2 => liftO ((cmpD o x y h2).map .bl) h2
  | .chn o o' a b c, env, h => bnd (ev P cl a env h) fun x h1 => bnd (ev P cl b env h1) fun y h2 => (match cmpD o x y h2 with
    | some true => bnd (ev P cl c env h2) fun z h3 => liftO ((cmpD o' y z h3).map .bl) h3
    | some false => ok (.bl false) h2
    | none => none)
  | .and a b, env, h => bnd (ev P cl a env h) fun x h1 => (match x with
    | .bl true => ev P cl b env h1
    | .bl false => ok (.bl false) h1
    | _ => none)
  | .or a b, env, h => bnd (ev P cl a env h) fun x h1 => (match x with
    | .bl true => ok (.bl true) h1
    | .bl false => ev P cl b env h1
    | _ => none)
  | .not a, env, h => bnd (ev P cl a env h) fun x h1 => (match x with
    | .bl b => ok (.bl (!b)) h1
    | _ => none)
  | .ife c a b, env, h => bnd (evT P cl c env h) fun k h1 => if k = true then ev P cl a env h1 else ev P cl b env h1
  | .idx a b, env, h => bnd (ev P cl a env h) fun x h1 => bnd (ev P cl b env h1) fun y h2 => liftO (idxD x y h2) h2
  | .dgt a b, env, h => bnd (ev P cl a env h) fun x h1 => bnd (ev P cl b env h1) fun y h2 => (match x with
    | .ref p => (match dget h2 p y with
      | some (some v) => ok v h2
      | _ => none)
    | _ => none)
  | .slc a lo hi, env, h => bnd (ev P cl a env h) fun x h1 => bnd (evO P cl lo env h1) fun l h2 => bnd (evO P cl hi env h2) fun u h3 => slcD x l u h3
  | .att a f, env, h => bnd (ev P cl a env h) fun x h1 => (match x with
    | .ref p => (match h1.get p with
      | some (.ins c fs) => if P.fld c f = true then liftO (fs.lookup f) h1 else none
      | _ => none)
    | _ => none)
  | .tup es, env, h => bnd (evs P cl es env h) fun vs h1 => if vs.length ≤ lim then ok (.tup vs) h1 else none
  | .lst es, env, h => bnd (evs P cl es env h) fun vs h1 => if vs.length ≤ lim then ok (.ref h1.next) (h1.new (.lst vs)) else none
  | .dict es, env, h => (match es with
    | .nil => ok (.ref h.next) (h.new (.dic []))
    | _ => if es.len % 2 = 0 then bnd (evs P cl es env (h.new (.dic []))) fun vs h1 => dispO (h1.get h.next) (pairUp vs) h1 h.next else none)
  | .call f es ds, env, h => bnd (evs P cl es env h) fun vs h1 => cl f (vs ++ ds.map Cst.d) h1
  | .meth o m es ds, env, h => bnd (ev P cl o env h) fun x h1 => (match x with
    | .ref p => (match h1.get p with
      | some (.ins c fs) => (match P.mt c m, fs.lookup m with
        | some f, none => bnd (evs P cl es env h1) fun vs h2 => cl f (.ref p :: (vs ++ ds.map Cst.d)) h2
        | _, _ => none)
      | _ => none)
    | _ => none)
  | .new c es, env, h => bnd (evs P cl es env h) fun vs h1 => (match P.mt c "__init__" with
    | some f => bnd (cl f (.ref h1.next :: vs) (h1.new (.ins c []))) fun x h2 => (match x with
      | .non => ok (.ref h1.next) h2
      | _ => none)
    | none => none)
  | .bi b es, env, h => bnd (evs P cl es env h) fun vs h1 => biD b vs h1
  | .bm b o es, env, h => bnd (ev P cl o env h) fun x h1 => if rcv b x h1 = true then bnd (evs P cl es env h1) fun vs h2 => bmD b x vs h2 else none
  | .gix x e, env, h => (match P.glob x with
    | some (.tup xs) => bnd (ev P cl e env h) fun y h1 => gixD (.tup xs) y h1
    | _ => none)
  | .isi a t, env, h => bnd (ev P cl a env h) fun x h1 => liftO ((tyN x h1).map fun n => .bl (isTn n t)) h1
  | .isi2 a t u, env, h => bnd (ev P cl a env h) fun x h1 => liftO ((tyN x h1).map fun n => .bl (isTn n t || isTn n u)) h1
  | .comp elt own g k es tst, env, h => bnd (evs P cl es env h) fun vs h1 => (match walk k vs h1 with
    | some (items, gd) => if g.in_ own = true then compL (fun e1 h2 => ev P cl elt e1 h2) (fun e1 h2 => evT P cl tst e1 h2) g gd h1.next (wipeE env own) items (h1.new (.lst [])) else none
    | none => none)
  | .cpx elt own g k es tst, env, h => bnd (evs P cl es env h) fun vs h1 => (match walk k vs h1 with
    | some (items, gd) => if g.in_ own = true then compX (fun e1 h2 => ev P cl elt e1 h2) (fun e1 h2 => evT P cl tst e1 h2) g gd h1.next (wipeE env own) items (h1.new (.lst [])) else none
    | none => none)
  | .fst es, env, h => evJ P cl es Str.empty env h
  | .fmt a, env, h => bnd (ev P cl a env h) fun x h1 => (match x with
    | .str y => if y.length ≤ lim then ok (.str y) h1 else none
    | .int i => if big i then ok (.str (Str.ofString (toString i))) h1 else none
    | _ => none)
  | .rsl a, env, h => bnd (ev P cl a env h) fun x h1 => (match lstOf x h1 with
    | some xs => ok (.ref h1.next) (h1.new (.lst xs.reverse))
    | none => none)
  | .dictT, _, h => ok (.ref h.next) (h.new (.dit []))
  | .dgtT a es, env, h => bnd (ev P cl a env h) fun x h1 => bnd (evs P cl es env h1) fun ks h2 => (match x with
    | .ref p => if ks.length ≤ lim then (match dgetT h2 p ks with
      | some (some v) => ok v h2
      | _ => none) else none
    | _ => none)
  | .getT a es d, env, h => bnd (ev P cl a env h) fun x h1 => (match x with
    | .ref p => (match dgetT h1 p [] with
      | some _ => bnd (evs P cl es env h1) fun ks h2 => if ks.length ≤ lim then (match dgetT h2 p ks with
        | some (some v) => ok v h2
        | some none => ok d.d h2
        | none => none) else none
      | none => none)
    | _ => none)
  | .lck i e, env, h => (match env[i]? with
    | some (some (.ref a)) => (match h.get a with
      | some o => (match lckO o with
        | some o' => bndN (ev P cl e env (h.put a o')) fun x h2 => if frzO (h2.get a) = true then ok x (h2.put a o) else none
        | none => none)
      | none => none)
    | _ => none)
  | .new0 c, _, h => ok (.ref h.next) (h.new (.ins c []))
  | .isx i c, env, h => (match env[i]? with
    | some (some (.exc k a)) => if P.xk = some (k, a) then liftO ((P.exs k c).map .bl) h else none
    | _ => none)
  | .isxB i c, env, h => (match env[i]? with
    | some (some (.exc k a)) => if P.xk = some (k, a) then liftO ((P.exb k c).map .bl) h else none
    | _ => none)
  | .lrg a, env, h => bnd (ev P cl a env h) fun x h1 => (match x with
    | .int n => if 0 ≤ n ∧ n ≤ 1000000 then ok (.ref h1.next) (h1.new (.lst ((List.range n.toNat).map fun (i : Nat) => .int (i : Int)))) else none
    | _ => none)
  | .iso a c, env, h => bnd (ev P cl a env h) fun x h1 => (match x with
    | .xob k => liftO ((P.exs k c).map .bl) h1
    | _ => none)
  | .isoB a c, env, h => bnd (ev P cl a env h) fun x h1 => (match x with
    | .xob k => liftO ((P.exb k c).map .bl) h1
    | _ => none)
  | .isc a c, env, h => bnd (ev P cl a env h) fun x h1 => (match x with
    | .ref p => (match h1.get p with
      | some (.ins c1 fs) => liftO ((P.sub c1 c).map .bl) h1
      | _ => none)
    | _ => none)
noncomputable def evs (P : Prog) (cl : Cl) : Es → Env → Hm → Res (List D)
  | .nil, _, h => ok [] h
  | .cons e es, env, h => bnd (ev P cl e env h) fun x h1 => bnd (evs P cl es env h1) fun xs h2 => ok (x :: xs) h2
noncomputable def evJ (P : Prog) (cl : Cl) : Es → Str → Env → Hm → Res D
  | .nil, acc, _, h => ok (.str acc) h
  | .cons e es, acc, env, h => bnd (ev P cl e env h) fun x h1 => (match x with
    | .str y => if (acc ++ y).length ≤ lim then evJ P cl es (acc ++ y) env h1 else none
    | _ => none)
noncomputable def evO (P : Prog) (cl : Cl) : Eo → Env → Hm → Res (Option Int)
  | .none, _, h => ok none h
  | .some e, env, h => bnd (ev P cl e env h) fun x h1 => (match x with
    | .int i => ok (some i) h1
    | _ => none)
noncomputable def evT (P : Prog) (cl : Cl) : T → Env → Hm → Res Bool
  | .yes, _, h => ok true h
  | .cmp o a b, env, h => bnd (ev P cl a env h) fun x h1 => bnd (ev P cl b env h1) fun y h2 => liftO (cmpD o x y h2) h2
  | .chn o o' a b c, env, h => bnd (ev P cl a env h) fun x h1 => bnd (ev P cl b env h1) fun y h2 => (match cmpD o x y h2 with
    | some true => bnd (ev P cl c env h2) fun z h3 => liftO (cmpD o' y z h3) h3
    | some false => ok false h2
    | none => none)
  | .and a b, env, h => bnd (evT P cl a env h) fun k h1 => if k = true then evT P cl b env h1 else ok false h1
  | .or a b, env, h => bnd (evT P cl a env h) fun k h1 => if k = true then ok true h1 else evT P cl b env h1
  | .not a, env, h => bnd (evT P cl a env h) fun k h1 => ok (!k) h1
  | .tru a, env, h => bnd (ev P cl a env h) fun x h1 => liftO (truD x h1) h1
end

def toS {α : Type} (m : Res α) (env : Env) (f : α → Hm → Out) : Out := match m with
  | none => none
  | some (.error k, h) => some (.ex k, env, h)
  | some (.ok a, h) => f a h
@[simp] theorem toS_none {α : Type} (env : Env) (f : α → Hm → Out) : toS none env f = none := rfl
@[simp] theorem toS_error {α : Type} (k : String) (h : Hm) (env : Env) (f : α → Hm → Out) : toS (some (.error k, h)) env f = some (.ex k, env, h) := rfl
@[simp] theorem toS_ok {α : Type} (a : α) (h : Hm) (env : Env) (f : α → Hm → Out) : toS (some (.ok a, h)) env f = f a h := rfl
def nxt (env : Env) (h : Hm) : Out := some (.nx, env, h)
def thenS (m : Out) (f : Env → Hm → Out) : Out := match m with
  | some (.nx, env, h) => f env h
  | r => r
@[simp] theorem thenS_nx (env : Env) (h : Hm) (f : Env → Hm → Out) : thenS (some (.nx, env, h)) f = f env h := rfl
@[simp] theorem thenS_rt (d : D) (env : Env) (h : Hm) (f : Env → Hm → Out) : thenS (some (.rt d, env, h)) f = some (.rt d, env, h) := rfl
@[simp] theorem thenS_ex (k : String) (env : Env) (h : Hm) (f : Env → Hm → Out) : thenS (some (.ex k, env, h)) f = some (.ex k, env, h) := rfl
@[simp] theorem thenS_none (f : Env → Hm → Out) : thenS none f = none := rfl

open Classical in
noncomputable def forL (fb : Env → Hm → Out) (g : Tg) (gd : List (Nat × O)) : List D → Env → Hm → Out
  | [], env, h => if stays gd h then nxt env h else none
  | x :: xs, env, h => if stays gd h then (match asgT g x env with
    | none => none
    | some env1 => thenS (fb env1 h) fun env2 h2 => forL fb g gd xs env2 h2) else none
def whl (ft : Env → Hm → Res Bool) (fb : Env → Hm → Out) : Nat → Env → Hm → Out
  | 0, _, _ => none
  | n + 1, env, h => toS (ft env h) env fun b h1 => if b = true then thenS (fb env h1) fun env2 h2 => whl ft fb n env2 h2 else nxt env h1
def setF (fs : List (String × D)) (f : String) (v : D) : List (String × D) := match fs with
  | [] => [(f, v)]
  | (g, x) :: r => if g = f then (g, v) :: r else (g, x) :: setF r f v

def emptied (i : Nat) (m : Out) : Out := match m with
  | some (.nx, env, h) => some (.nx, env.set i none, h)
  | some (.rt d, env, h) => some (.rt d, env.set i none, h)
  | _ => none
open Classical in
noncomputable def oneA (m : Nat → Out) : Out := if h : ∃ r, ∀ a, m a = some r then some (choose h) else none
theorem oneA_ok {m : Nat → Out} {r : Fl × Env × Hm} (h : ∀ a, m a = some r) : oneA m = some r := by
  have hh : ∃ r, ∀ a, m a = some r := ⟨r, h⟩
  unfold oneA
  rw [dif_pos hh]
  exact ((Classical.choose_spec hh) 0).symm.trans (h 0)
theorem oneA_of {m : Nat → Out} {r : Fl × Env × Hm} (e : oneA m = some r) (a : Nat) : m a = some r := by
  unfold oneA at e
  split at e
  · rename_i hh
    rw [← e]
    exact Classical.choose_spec hh a
  · cases e
def augD (o : Bop) (x y : D) : Option D := match o, x, y with
  | .add, .int i, .int j => some (.int (i + j))
  | .sub, .int i, .int j => some (.int (i - j))
  | _, _, _ => none
noncomputable def ex (P : Prog) (cl : Cl) : S → Env → Hm → Out
  | .skip, env, h => nxt env h
  | .seq a b, env, h => thenS (ex P cl a env h) fun env1 h1 => ex P cl b env1 h1
  | .asg i e, env, h => toS (ev P cl e env h) env fun x h1 => nxt (env.set i (some x)) h1
  | .unp is e, env, h => toS (ev P cl e env h) env fun x h1 => (match seqOf x h1 with
    | some xs => (match setN env is xs with
      | some env1 => nxt env1 h1
      | none => none)
    | none => none)
  | .sfld o f e, env, h => toS (ev P cl e env h) env fun x h1 => toS (ev P cl o env h1) env fun y h2 => (match y with
    | .ref p => (match h2.get p with
      | some (.ins c fs) => if P.fld c f = true ∧ fs.length < 1000 then nxt env (h2.put p (.ins c (setF fs f x))) else none
      | _ => none)
    | _ => none)
  | .sidx o i e, env, h => toS (ev P cl e env h) env fun x h1 => toS (ev P cl o env h1) env fun y h2 => toS (ev P cl i env h2) env fun z h3 => (match y, z with
    | .ref p, .int k => (match h3.get p with
      | some (.lst xs) => (match ixD xs.length k with
        | some j => nxt env (h3.put p (.lst (xs.set j x)))
        | none => none)
      | _ => none)
    | _, _ => none)
  | .dput o i e, env, h => toS (ev P cl e env h) env fun x h1 => toS (ev P cl o env h1) env fun y h2 => toS (ev P cl i env h2) env fun z h3 => (match y with
    | .ref p => (match dput h3 p z x with
      | some h4 => nxt env h4
      | none => none)
    | _ => none)
  | .aug i o e, env, h => (match env[i]? with
    | some (some x) => toS (ev P cl e env h) env fun y h1 => (match augD o x y with
      | some z => nxt (env.set i (some z)) h1
      | none => none)
    | _ => none)
  | .augf o f op e, env, h => toS (ev P cl o env h) env fun y h1 => (match y with
    | .ref p => (match h1.get p with
      | some (.ins c fs) => if P.fld c f = true then (match fs.lookup f with
        | some x => toS (ev P cl e env h1) env fun v h2 => (match augD op x v with
          | some z => (match h2.get p with
            | some (.ins c' fs') => if c' = c ∧ fs'.length < 1000 then nxt env (h2.put p (.ins c (setF fs' f z))) else none
            | _ => none)
          | none => none)
        | none => none) else none
      | _ => none)
    | _ => none)
  | .augi o i op e, env, h => toS (ev P cl o env h) env fun y h1 => toS (ev P cl i env h1) env fun z h2 => (match y, z with
    | .ref p, .int k => (match h2.get p with
      | some (.lst xs) => if 0 ≤ k then (match xs[k.toNat]? with
        | some x => toS (ev P cl e env h2) env fun v h3 => (match augD op x v, h3.get p with
          | some w, some (.lst ys) => if k.toNat < ys.length then nxt env (h3.put p (.lst (ys.set k.toNat w))) else none
          | _, _ => none)
        | none => none) else none
      | _ => none)
    | _, _ => none)
  | .ite c a b, env, h => toS (evT P cl c env h) env fun k h1 => if k = true then ex P cl a env h1 else ex P cl b env h1
  | .for_ g k es body, env, h => toS (evs P cl es env h) env fun vs h1 => (match walk k vs h1 with
    | some (items, gd) => forL (fun e1 h2 => ex P cl body e1 h2) g gd items env h1
    | none => none)
  | .wh c body, env, h => whl (fun e1 h1 => evT P cl c e1 h1) (fun e1 h1 => ex P cl body e1 h1) P.lf env h
  | .ret e, env, h => toS (ev P cl e env h) env fun x h1 => some (.rt x, env, h1)
  | .drop e, env, h => toS (ev P cl e env h) env fun _ h1 => nxt env h1
  | .rai c, env, h => some (.ex c, env, h)
  | .try_ b c x s, env, h => (match ex P cl b env h with
    | some (.ex k, env2, h2) => (match P.exm k c with
      | some true => (match x with
        | none => (match ex P cl s env2 h2 with
          | some (.ex _, _, _) => none
          | r => r)
        | some i => oneA fun a => emptied i (ex { P with xk := some (k, a) } cl s (env2.set i (some (.exc k a))) h2))
      | some false => some (.ex k, env2, h2)
      | none => none)
    | r => r)
  | .tryK b c i j, env, h => (match ex P cl b env h with
    | some (.ex k, env2, h2) => if P.exm k c = some true ∧ i < env2.length ∧ i ≠ j then nxt ((env2.set j (some (.xob k))).set i none) h2 else none
    | r => r)
  | .dputT o es e, env, h => toS (ev P cl e env h) env fun x h1 => toS (ev P cl o env h1) env fun y h2 => toS (evs P cl es env h2) env fun ks h3 => (match y with
    | .ref p => if ks.length ≤ lim then (match dputT h3 p ks x with
      | some h4 => nxt env h4
      | none => none) else none
    | _ => none)
  | .par i j es, env, h => toS (evs P cl es env h) env fun vs h1 => (match vs with
    | [x, y] => nxt ((env.set i (some x)).set j (some y)) h1
    | _ => none)
  | .lck i s, env, h => (match env[i]? with
    | some (some (.ref a)) => (match h.get a with
      | some o => (match lckO o with
        | some o' => (match ex P cl s env (h.put a o') with
          | some (.nx, env2, h2) => if frzO (h2.get a) = true then some (.nx, env2, h2.put a o) else none
          | some (.rt d, env2, h2) => if frzO (h2.get a) = true then some (.rt d, env2, h2.put a o) else none
          | _ => none)
        | none => none)
      | none => none)
    | _ => none)

def start (n : Nat) (ds : List D) : Env := ds.map some ++ List.replicate (n - ds.length) none
def endF (o : Out) : Res D := match o with
  | none => none
  | some (.nx, _, h) => some (.ok .non, h)
  | some (.rt d, _, h) => some (.ok d, h)
  | some (.ex k, _, h) => some (.error k, h)
noncomputable def callF (P : Prog) : Nat → Cl
  | 0 => fun _ _ _ => none
  | n + 1 => fun f ds h => match P.fn f with
    | none => none
    | some F => if ds.length = F.np then endF (ex P (callF P n) F.body (start F.ns ds) h) else none
end Z

set_option maxRecDepth 100000
namespace Z
open PySem L2

abbrev Rho := Nat → Addr
def rn (r : Rho) (n : Nat) (p : Addr) : Rho := fun a => if a = n then p else r a
def ca (K : PySem.W.Frag) (c : String) : Addr := He.ga K (Str.ofString c)

abbrev xT : HO := .ext fun _ => True
mutual
inductive RepV (K : PySem.W.Frag) (r : Rho) (n : Nat) (H : Hp) : V → D → Prop
  | non : RepV K r n H .non .non
  | bl (b : Bool) : RepV K r n H (.bl b) (.bl b)
  | int (i : Int) : RepV K r n H (.int i) (.int i)
  | str (s : Str) : RepV K r n H (.str s) (.str s)
  | tup {a : Addr} {vs : List V} {ds : List D} (h : SqT K H a vs) (q : RepL K r n H vs ds) : RepV K r n H (.ref a) (.tup ds)
  | ref {a : Nat} (h : a < n) : RepV K r n H (.ref (r a)) (.ref a)
  | exc (k : String) (a : Addr) : RepV K r n H (.ref a) (.exc k a)
  | xob (k : String) {a : Addr} {oe : Obj} (h : H a = some (.frz oe xT)) (z : Zc (.ref (ca K k)) none oe) (f : ∃ vs, oe.data = .fields vs) : RepV K r n H (.ref a) (.xob k)
inductive RepL (K : PySem.W.Frag) (r : Rho) (n : Nat) (H : Hp) : List V → List D → Prop
  | nil : RepL K r n H [] []
  | cons {v : V} {vs : List V} {d : D} {ds : List D} : RepV K r n H v d → RepL K r n H vs ds → RepL K r n H (v :: vs) (d :: ds)
end

structure Ext0 (K : PySem.W.Frag) (r : Rho) (n : Nat) (H : Hp) (r' : Rho) (n' : Nat) (H' : Hp) : Prop where
  le : n ≤ n'
  at_ : ∀ a, a < n → r' a = r a
  tup : ∀ a vs, SqT K H a vs → SqT K H' a vs
  xob : ∀ a ob, H a = some (.frz ob xT) → H' a = some (.frz ob xT)
structure Ext (K : PySem.W.Frag) (r : Rho) (n : Nat) (H : Hp) (r' : Rho) (n' : Nat) (H' : Hp) : Prop extends Ext0 K r n H r' n' H' where
  frz : ∀ a ob u, H a = some (.frz ob u) → H' a = some (.frz ob u)
section
variable {K : PySem.W.Frag} {r r' r2 : Rho} {n n' n2 : Nat} {H H' H2 : Hp}
theorem Ext.refl : Ext K r n H r n H := ⟨⟨Nat.le_refl _, fun _ _ => rfl, fun _ _ h => h, fun _ _ h => h⟩, fun _ _ _ h => h⟩
theorem Ext.trans (a : Ext K r n H r' n' H') (b : Ext K r' n' H' r2 n2 H2) : Ext K r n H r2 n2 H2 :=
  ⟨⟨Nat.le_trans a.le b.le, fun x h => (b.at_ x (Nat.lt_of_lt_of_le h a.le)).trans (a.at_ x h), fun x vs h => b.tup x vs (a.tup x vs h), fun x ob h => b.xob x ob (a.xob x ob h)⟩, fun x ob u h => b.frz x ob u (a.frz x ob u h)⟩
mutual
theorem RepV.ext0 (e : Ext0 K r n H r' n' H') : ∀ {d : D} {v : V}, RepV K r n H v d → RepV K r' n' H' v d
  | _, _, .non => .non
  | _, _, .bl b => .bl b
  | _, _, .int b => .int b
  | _, _, .str b => .str b
  | _, _, .tup h q => .tup (e.tup _ _ h) (RepL.ext0 e q)
  | _, _, .ref (a := a) h => by
    rw [← e.at_ a h]
    exact .ref (Nat.lt_of_lt_of_le h e.le)
  | _, _, .exc k a => .exc k a
  | _, _, .xob k h z f => .xob k (e.xob _ _ h) z f
theorem RepL.ext0 (e : Ext0 K r n H r' n' H') : ∀ {ds : List D} {vs : List V}, RepL K r n H vs ds → RepL K r' n' H' vs ds
  | _, _, .nil => .nil
  | _, _, .cons a b => .cons (RepV.ext0 e a) (RepL.ext0 e b)
end
theorem RepV.ext (e : Ext K r n H r' n' H') {d : D} {v : V} (q : RepV K r n H v d) : RepV K r' n' H' v d := RepV.ext0 e.toExt0 q
theorem RepL.ext (e : Ext K r n H r' n' H') {ds : List D} {vs : List V} (q : RepL K r n H vs ds) : RepL K r' n' H' vs ds := RepL.ext0 e.toExt0 q
theorem RepL.len : ∀ {ds : List D} {vs : List V}, RepL K r n H vs ds → vs.length = ds.length
  | _, _, .nil => rfl
  | _, _, .cons a b => congrArg Nat.succ (RepL.len b)
theorem RepL.get : ∀ {ds : List D} {vs : List V} {i : Nat} {d : D}, RepL K r n H vs ds → ds[i]? = some d → ∃ v, vs[i]? = some v ∧ RepV K r n H v d
  | _, _, _, _, .nil, h => by simp at h
  | _, _, 0, _, .cons a b, h => by simp at h; subst h; exact ⟨_, rfl, a⟩
  | _, _, i + 1, _, .cons a b, h => by
    obtain ⟨v, e, q⟩ := RepL.get (i := i) b (by simpa using h)
    exact ⟨v, by simpa using e, q⟩
theorem RepL.app : ∀ {ds es : List D} {vs us : List V}, RepL K r n H vs ds → RepL K r n H us es → RepL K r n H (vs ++ us) (ds ++ es)
  | _, _, _, _, .nil, q => q
  | _, _, _, _, .cons a b, q => .cons a (RepL.app b q)
theorem RepL.set {v : V} {d : D} (q : RepV K r n H v d) : ∀ {ds : List D} {vs : List V} (i : Nat), RepL K r n H vs ds → RepL K r n H (vs.set i v) (ds.set i d)
  | _, _, _, .nil => .nil
  | _, _, 0, .cons a b => .cons q b
  | _, _, i + 1, .cons a b => .cons a (RepL.set q i b)
theorem RepL.take : ∀ {ds : List D} {vs : List V} (i : Nat), RepL K r n H vs ds → RepL K r n H (vs.take i) (ds.take i)
  | _, _, _, .nil => by simp; exact .nil
  | _, _, 0, .cons a b => .nil
  | _, _, i + 1, .cons a b => .cons a (RepL.take i b)
theorem RepL.drop : ∀ {ds : List D} {vs : List V} (i : Nat), RepL K r n H vs ds → RepL K r n H (vs.drop i) (ds.drop i)
  | _, _, _, .nil => by simp; exact .nil
  | _, _, 0, .cons a b => .cons a b
  | _, _, i + 1, .cons a b => RepL.drop i b
theorem RepL.rep {ds : List D} {vs : List V} (q : RepL K r n H vs ds) : ∀ k : Nat, RepL K r n H (List.replicate k vs).flatten (List.replicate k ds).flatten
  | 0 => .nil
  | k + 1 => by
    rw [List.replicate_succ, List.replicate_succ, List.flatten_cons, List.flatten_cons]
    exact q.app (RepL.rep q k)
theorem RepL.rev : ∀ {ds : List D} {vs : List V}, RepL K r n H vs ds → RepL K r n H vs.reverse ds.reverse
  | _, _, .nil => .nil
  | _, _, .cons a b => by
    rw [List.reverse_cons, List.reverse_cons]
    exact (RepL.rev b).app (.cons a .nil)
theorem RepL.append1 {ds : List D} {vs : List V} {v : V} {d : D} (q : RepL K r n H vs ds) (a : RepV K r n H v d) : RepL K r n H (vs ++ [v]) (ds ++ [d]) := q.app (.cons a .nil)
theorem RepL.ints : ∀ {ds : List D} {vs : List V} {ns : List Int}, RepL K r n H vs ds → ints? ds = some ns → vs = ns.map V.int
  | _, _, _, .nil, e => by cases e; rfl
  | _, _, _, .cons (.int i) b, e => by
    unfold ints? at e
    obtain ⟨ms, e1, rfl⟩ := Option.map_eq_some_iff.mp e
    rw [RepL.ints b e1]
    rfl
  | _, _, _, .cons .non b, e => by cases e
  | _, _, _, .cons (.bl _) b, e => by cases e
  | _, _, _, .cons (.str _) b, e => by cases e
  | _, _, _, .cons (.tup _ _) b, e => by cases e
  | _, _, _, .cons (.ref _) b, e => by cases e
theorem RepL.bls : ∀ {ds : List D} {vs : List V} {ns : List Bool}, RepL K r n H vs ds → bls? ds = some ns → vs = ns.map V.bl
  | _, _, _, .nil, e => by cases e; rfl
  | _, _, _, .cons (.bl i) b, e => by
    unfold bls? at e
    obtain ⟨ms, e1, rfl⟩ := Option.map_eq_some_iff.mp e
    rw [RepL.bls b e1]
    rfl
  | _, _, _, .cons .non b, e => by cases e
  | _, _, _, .cons (.int _) b, e => by cases e
  | _, _, _, .cons (.str _) b, e => by cases e
  | _, _, _, .cons (.tup _ _) b, e => by cases e
  | _, _, _, .cons (.ref _) b, e => by cases e
theorem RepL.strs : ∀ {ds : List D} {vs : List V} {ns : List Str}, RepL K r n H vs ds → strs? ds = some ns → vs = ns.map V.str
  | _, _, _, .nil, e => by cases e; rfl
  | _, _, _, .cons (.str i) b, e => by
    unfold strs? at e
    obtain ⟨ms, e1, rfl⟩ := Option.map_eq_some_iff.mp e
    rw [RepL.strs b e1]
    rfl
  | _, _, _, .cons .non b, e => by cases e
  | _, _, _, .cons (.int _) b, e => by cases e
  | _, _, _, .cons (.bl _) b, e => by cases e
  | _, _, _, .cons (.tup _ _) b, e => by cases e
  | _, _, _, .cons (.ref _) b, e => by cases e
theorem repInts : ∀ ns : List Int, RepL K r n H (ns.map V.int) (ns.map D.int)
  | [] => .nil
  | i :: ns => .cons (.int i) (repInts ns)
theorem repStrs : ∀ ns : List Str, RepL K r n H (ns.map V.str) (ns.map D.str)
  | [] => .nil
  | i :: ns => .cons (.str i) (repStrs ns)
end

def RepK {κ : Type} (K : PySem.W.Frag) (r : Rho) (n : Nat) (H : Hp) (ws : List (κ × V)) (kvs : List (κ × D)) : Prop := ws.map (·.1) = kvs.map (·.1) ∧ RepL K r n H (ws.map (·.2)) (kvs.map (·.2))
def RepF (K : PySem.W.Frag) (r : Rho) (n : Nat) (H : Hp) (ws : List (Str × V)) (fs : List (String × D)) : Prop := ws.map (·.1) = fs.map (fun f => Str.ofString f.1) ∧ RepL K r n H (ws.map (·.2)) (fs.map (·.2))
def SqF (K : PySem.W.Frag) (H : Hp) (a : Addr) (xs : List V) : Prop :=
  (∃ ob, H a = some (.frz ob (.lst xs))) ∨
    ∃ (o : Obj) (its : Array Value) (n : Nat), K.lookup a = some o ∧ o.cls = .type "list" ∧ o.dict = none ∧ o.data = .seq its n ∧ its.size ≤ sizeLine ∧ Vals xs its.toList
theorem SqF.l {K : PySem.W.Frag} {H : Hp} {a : Addr} {xs : List V} (h : SqF K H a xs) : SqL K H a xs := by
  rcases h with h | h
  · exact .inl (.inr h)
  · exact .inr h
def RepO (K : PySem.W.Frag) (r : Rho) (n : Nat) (H : Hp) (p : Addr) : O → Prop
  | .lst xs => ∃ vs, H p = some (.lst vs) ∧ RepL K r n H vs xs
  | .fz xs => ∃ vs, SqF K H p vs ∧ RepL K r n H vs xs
  | .dic kvs => ∃ ws, H p = some (.dK ws) ∧ RepK K r n H ws kvs
  | .dit kvs => ∃ ws, H p = some (.dT ws) ∧ RepK K r n H ws kvs
  | .ins c fs => ∃ dx ws, H p = some (.ins (ca K c) dx ws) ∧ RepF K r n H ws fs
  | .fzd kvs => ∃ ob ws, H p = some (.frz ob (.dK ws)) ∧ RepK K r n H ws kvs
  | .fzt kvs => ∃ ob ws, H p = some (.frz ob (.dT ws)) ∧ RepK K r n H ws kvs
def mutO : O → Bool
  | .fz _ => false
  | .fzd _ => false
  | .fzt _ => false
  | _ => true
def ownO : O → Bool
  | .fz _ => false
  | _ => true
theorem own_of {o : O} (m : mutO o = true) : ownO o = true := by cases o <;> first | rfl | cases m
def mutH : HO → Bool
  | .lst _ => true
  | .dK _ => true
  | .dT _ => true
  | .ins _ _ _ => true
  | _ => false
structure Sim (K : PySem.W.Frag) (r : Rho) (h : Hm) (H : Hp) : Prop where
  obj : ∀ a o, h.get a = some o → a < h.next ∧ RepO K r h.next H (r a) o
  inj : ∀ a b oa ob, h.get a = some oa → h.get b = some ob → ownO oa = true → ownO ob = true → r a = r b → a = b
section
variable {K : PySem.W.Frag} {r r' : Rho} {n n' : Nat} {h h' : Hm} {H H' : Hp} {p : Addr} {o : O}
theorem RepO.mut (q : RepO K r n H p o) (m : mutO o = true) : ∃ u, H p = some u ∧ mutH u = true := by
  cases o with
  | lst xs => obtain ⟨vs, e, _⟩ := q; exact ⟨_, e, rfl⟩
  | fz xs => cases m
  | dic kvs => obtain ⟨vs, e, _⟩ := q; exact ⟨_, e, rfl⟩
  | dit kvs => obtain ⟨vs, e, _⟩ := q; exact ⟨_, e, rfl⟩
  | ins c fs => obtain ⟨dx, vs, e, _⟩ := q; exact ⟨_, e, rfl⟩
  | fzd kvs => cases m
  | fzt kvs => cases m
theorem RepO.own (q : RepO K r n H p o) (m : ownO o = true) : ∃ u, H p = some u := by
  cases o with
  | lst xs => obtain ⟨vs, e, _⟩ := q; exact ⟨_, e⟩
  | fz xs => cases m
  | dic kvs => obtain ⟨vs, e, _⟩ := q; exact ⟨_, e⟩
  | dit kvs => obtain ⟨vs, e, _⟩ := q; exact ⟨_, e⟩
  | ins c fs => obtain ⟨dx, vs, e, _⟩ := q; exact ⟨_, e⟩
  | fzd kvs => obtain ⟨dx, vs, e, _⟩ := q; exact ⟨_, e⟩
  | fzt kvs => obtain ⟨dx, vs, e, _⟩ := q; exact ⟨_, e⟩
theorem RepK.ext0 {κ : Type} {ws : List (κ × V)} {kvs : List (κ × D)} (e : Ext0 K r n H r' n' H') (q : RepK K r n H ws kvs) : RepK K r' n' H' ws kvs := ⟨q.1, q.2.ext0 e⟩
theorem RepF.ext0 {ws : List (Str × V)} {kvs : List (String × D)} (e : Ext0 K r n H r' n' H') (q : RepF K r n H ws kvs) : RepF K r' n' H' ws kvs := ⟨q.1, q.2.ext0 e⟩
theorem RepK.ext {κ : Type} {ws : List (κ × V)} {kvs : List (κ × D)} (e : Ext K r n H r' n' H') (q : RepK K r n H ws kvs) : RepK K r' n' H' ws kvs := ⟨q.1, q.2.ext e⟩
theorem RepF.ext {ws : List (Str × V)} {kvs : List (String × D)} (e : Ext K r n H r' n' H') (q : RepF K r n H ws kvs) : RepF K r' n' H' ws kvs := ⟨q.1, q.2.ext e⟩
theorem RepO.keep (e : Ext0 K r n H r' n' H') (q : RepO K r n H p o) (k : ownO o = true → H' p = H p) (kf : ∀ vs, SqF K H p vs → SqF K H' p vs) : RepO K r' n' H' p o := by
  cases o with
  | lst xs => obtain ⟨vs, a, b⟩ := q; exact ⟨vs, (k rfl).trans a, b.ext0 e⟩
  | fz xs =>
    obtain ⟨vs, a, b⟩ := q
    exact ⟨vs, kf vs a, b.ext0 e⟩
  | dic kvs => obtain ⟨vs, a, b⟩ := q; exact ⟨vs, (k rfl).trans a, RepK.ext0 e b⟩
  | dit kvs => obtain ⟨vs, a, b⟩ := q; exact ⟨vs, (k rfl).trans a, RepK.ext0 e b⟩
  | ins c fs => obtain ⟨dx, vs, a, b⟩ := q; exact ⟨dx, vs, (k rfl).trans a, RepF.ext0 e b⟩
  | fzd kvs => obtain ⟨dx, vs, a, b⟩ := q; exact ⟨dx, vs, (k rfl).trans a, RepK.ext0 e b⟩
  | fzt kvs => obtain ⟨dx, vs, a, b⟩ := q; exact ⟨dx, vs, (k rfl).trans a, RepK.ext0 e b⟩
def Free (H : Hp) (q : Addr) : Prop := H q = none ∨ ∃ v, H q = some v ∧ mutH v = true
theorem Free.rd {q a : Addr} {u : HO} {x : HO} (f : Free H q) (h : Rd H a x) (nx : mutH x = false) : Rd (upd H q u) a x := by
  have ne : a ≠ q := by
    rintro rfl
    rcases f with f | ⟨v, f, m⟩
    · rcases h with h | ⟨ob, h⟩ <;> rw [f] at h <;> cases h
    · rcases h with h | ⟨ob, h⟩
      · rw [f] at h; cases h; rw [m] at nx; cases nx
      · rw [f] at h; cases h; cases m
  rcases h with h | ⟨ob, h⟩
  · exact .inl (by rw [upd_ne ne]; exact h)
  · exact .inr ⟨ob, by rw [upd_ne ne]; exact h⟩
theorem Free.sqt {q a : Addr} {u : HO} {xs : List V} (f : Free H q) (h : SqT K H a xs) : SqT K (upd H q u) a xs := by
  rcases h with h | h
  · exact .inl (f.rd h rfl)
  · exact .inr h
theorem Free.sqf {q a : Addr} {u : HO} {xs : List V} (f : Free H q) (h : SqF K H a xs) : SqF K (upd H q u) a xs := by
  rcases h with ⟨ob, h⟩ | h
  · have ne : a ≠ q := by
      rintro rfl
      rcases f with f | ⟨v, f, m⟩
      · rw [f] at h; cases h
      · rw [f] at h; cases h; cases m
    exact .inl ⟨ob, by rw [upd_ne ne]; exact h⟩
  · exact .inr h
theorem Free.frz {q a : Addr} {ob : Obj} {u x : HO} (f : Free H q) (h : H a = some (.frz ob x)) : upd H q u a = some (.frz ob x) := by
  have ne : a ≠ q := by
    rintro rfl
    rcases f with f | ⟨v, f, m⟩
    · rw [f] at h; cases h
    · rw [f] at h; cases h; cases m
  rw [upd_ne ne]; exact h
theorem Free.ext {q : Addr} {u : HO} (f : Free H q) : Ext K r n H r n (upd H q u) := ⟨⟨Nat.le_refl _, fun _ _ => rfl, fun _ _ h => f.sqt h, fun _ _ h => f.frz h⟩, fun _ _ _ h => f.frz h⟩
theorem Free.extN {q : Addr} {u : HO} (f : Free H q) : Ext K r n H (rn r n q) (n + 1) (upd H q u) :=
  ⟨⟨Nat.le_succ _, fun a ha => by unfold rn; rw [if_neg (by omega)], fun _ _ h => f.sqt h, fun _ _ h => f.frz h⟩, fun _ _ _ h => f.frz h⟩
theorem rn_at {q : Addr} : rn r n q n = q := by unfold rn; rw [if_pos rfl]
theorem rn_old {q : Addr} {a : Nat} (ha : a < n) : rn r n q a = r a := by unfold rn; rw [if_neg (by omega)]
theorem Sim.ne (S : Sim K r h H) {a : Nat} {oa : O} {q : Addr} (ha : h.get a = some oa) (m : ownO oa = true) (hq : H q = none) : r a ≠ q := by
  obtain ⟨u, e⟩ := (S.obj a oa ha).2.own m
  rintro rfl
  rw [hq] at e
  cases e
theorem Sim.grow (S : Sim K r h H) {q : Addr} {u : HO} (hq : H q = none) : Sim K r h (upd H q u) := by
  refine ⟨fun a o ha => ⟨(S.obj a o ha).1, ?_⟩, S.inj⟩
  exact RepO.keep (Free.ext (.inl hq)).toExt0 (S.obj a o ha).2 (fun m => upd_ne (S.ne ha m hq)) fun vs h => Free.sqf (.inl hq) h
theorem Sim.new (S : Sim K r h H) {q : Addr} {u : HO} {o : O} (hq : H q = none) (m : mutO o = true) (w : RepO K (rn r h.next q) (h.next + 1) (upd H q u) q o) : Sim K (rn r h.next q) (h.new o) (upd H q u) := by
  have old : ∀ a oa, h.get a = some oa → a < h.next := fun a oa ha => (S.obj a oa ha).1
  refine ⟨fun a oa ha => ?_, fun a b oa ob ha hb ma mb e => ?_⟩
  · rw [new_get] at ha
    by_cases ea : a = h.next
    · subst ea
      rw [if_pos rfl] at ha
      cases ha
      rw [rn_at]
      exact ⟨Nat.lt_succ_self _, w⟩
    · rw [if_neg ea] at ha
      have la := old a oa ha
      rw [rn_old la]
      exact ⟨Nat.lt_succ_of_lt la, RepO.keep (Free.extN (.inl hq)).toExt0 (S.obj a oa ha).2 (fun m => upd_ne (S.ne ha m hq)) fun vs h => Free.sqf (.inl hq) h⟩
  · rw [new_get] at ha hb
    by_cases ea : a = h.next
    · by_cases eb : b = h.next
      · rw [ea, eb]
      · rw [if_neg eb] at hb
        subst ea
        rw [rn_at, rn_old (old b ob hb)] at e
        exact absurd e.symm (S.ne hb mb hq)
    · rw [if_neg ea] at ha
      by_cases eb : b = h.next
      · subst eb
        rw [rn_at, rn_old (old a oa ha)] at e
        exact absurd e (S.ne ha ma hq)
      · rw [if_neg eb] at hb
        rw [rn_old (old a oa ha), rn_old (old b ob hb)] at e
        exact S.inj a b oa ob ha hb ma mb e
theorem Sim.free (S : Sim K r h H) {a : Nat} {o0 : O} (ha : h.get a = some o0) (m0 : mutO o0 = true) : Free H (r a) := .inr ((S.obj a o0 ha).2.mut m0)
theorem Sim.put (S : Sim K r h H) {a : Nat} {o0 o : O} {u : HO} (ha : h.get a = some o0) (m0 : mutO o0 = true) (m : ownO o = true) (w : RepO K r h.next (upd H (r a) u) (r a) o) : Sim K r (h.put a o) (upd H (r a) u) := by
  have f := S.free ha m0
  have m0 := own_of m0
  refine ⟨fun b ob hb => ?_, fun b c ob oc hb hc mb mc e => ?_⟩
  · rw [put_get] at hb
    by_cases eb : b = a
    · subst eb
      rw [if_pos rfl] at hb
      cases hb
      exact ⟨(S.obj b o0 ha).1, w⟩
    · rw [if_neg eb] at hb
      exact ⟨(S.obj b ob hb).1, RepO.keep f.ext.toExt0 (S.obj b ob hb).2 (fun mb => upd_ne fun e => eb (S.inj b a ob o0 hb ha mb m0 e)) fun vs h => f.sqf h⟩
  · rw [put_get] at hb hc
    by_cases eb : b = a
    · by_cases ec : c = a
      · rw [eb, ec]
      · rw [if_neg ec] at hc
        subst eb
        exact S.inj b c o0 oc ha hc m0 mc e
    · rw [if_neg eb] at hb
      by_cases ec : c = a
      · subst ec
        exact S.inj b c ob o0 hb ha mb m0 e
      · rw [if_neg ec] at hc
        exact S.inj b c ob oc hb hc mb mc e
end

section
variable {K : PySem.W.Frag} {r r' r2 : Rho} {n n' n2 : Nat} {h h2 : Hm} {H H2 : Hp} {p d : Addr} {o o1 : O} {ob : Obj} {u : HO}
def dctH : HO → Bool
  | .dK _ => true
  | .dT _ => true
  | _ => false
theorem dct_mut (m : dctH u = true) : mutH u = true ∧ Mut (some u) := by cases u <;> first | exact ⟨rfl, trivial⟩ | cases m
theorem open0 (hd : H d = some (.frz ob u)) (m : dctH u = true) : Ext0 K r n H r n (upd H d u) := by
  refine ⟨Nat.le_refl _, fun _ _ => rfl, fun a vs h => ?_, fun a ob' h => by
    have ne : a ≠ d := by rintro rfl; rw [hd] at h; cases h; cases m
    rw [upd_ne ne]; exact h⟩
  rcases h with h | h
  · have ne : a ≠ d := by
      rintro rfl
      rcases h with h | ⟨o', h⟩
      · rw [hd] at h; cases h
      · rw [hd] at h; cases h; cases m
    refine .inl ?_
    rcases h with h | ⟨o', h⟩
    · exact .inl (by rw [upd_ne ne]; exact h)
    · exact .inr ⟨o', by rw [upd_ne ne]; exact h⟩
  · exact .inr h
theorem Ext.open (x : Ext K r n (upd H d (.frz ob u)) r2 n2 H2) (hd : H d = some u) (m : dctH u = true) : Ext K r n H r2 n2 (upd H2 d u) := by
  have f : Free H d := .inr ⟨u, hd, (dct_mut m).1⟩
  have h2 : H2 d = some (.frz ob u) := x.frz d ob u upd_same
  refine ⟨⟨x.le, x.at_, fun a vs h => (open0 (r := r) (n := n) h2 m).tup a vs (x.tup a vs (f.sqt h)), fun a ob' h => (open0 (K := K) (r := r) (n := n) h2 m).xob a ob' (x.xob a ob' (f.frz h))⟩, fun a o' v h => ?_⟩
  have ne : a ≠ d := by
    rintro rfl
    rw [hd] at h; cases h; cases m
  rw [upd_ne ne]
  exact x.frz a o' v (by rw [upd_ne ne]; exact h)
theorem Sim.open (S : Sim K r h H) {a : Nat} (ha : h.get a = some o1) (f1 : frzO (some o1) = true) (m : ownO o = true) (hd : H (r a) = some (.frz ob u)) (mu : dctH u = true) (w : RepO K r h.next (upd H (r a) u) (r a) o) : Sim K r (h.put a o) (upd H (r a) u) := by
  have m0 : ownO o1 = true := by cases o1 <;> first | rfl | cases f1
  refine ⟨fun b ob2 hb => ?_, fun b c ob2 oc hb hc mb mc e => ?_⟩
  · rw [put_get] at hb
    by_cases eb : b = a
    · subst eb
      rw [if_pos rfl] at hb
      cases hb
      exact ⟨(S.obj b o1 ha).1, w⟩
    · rw [if_neg eb] at hb
      refine ⟨(S.obj b ob2 hb).1, RepO.keep (open0 hd mu) (S.obj b ob2 hb).2 (fun mb => upd_ne fun e => eb (S.inj b a ob2 o1 hb ha mb m0 e)) fun vs h => ?_⟩
      rcases h with ⟨o', h⟩ | h
      · have ne : r b ≠ r a := by
          intro e
          rw [e, hd] at h; cases h; cases mu
        exact .inl ⟨o', by rw [upd_ne ne]; exact h⟩
      · exact .inr h
  · rw [put_get] at hb hc
    by_cases eb : b = a
    · by_cases ec : c = a
      · rw [eb, ec]
      · rw [if_neg ec] at hc
        subst eb
        exact S.inj b c o1 oc ha hc m0 mc e
    · rw [if_neg eb] at hb
      by_cases ec : c = a
      · subst ec
        exact S.inj b c ob2 o1 hb ha mb m0 e
      · rw [if_neg ec] at hc
        exact S.inj b c ob2 oc hb hc mb mc e
theorem Sim.lock (S : Sim K r h H) {a : Nat} {o' : O} (ha : h.get a = some o) (e : lckO o = some o') : ∃ u, H (r a) = some u ∧ dctH u = true ∧ ∀ ob, Sim K r (h.put a o') (upd H (r a) (.frz ob u)) ∧
    ∀ r2 h2 H2, Sim K r2 h2 H2 → Ext K r h.next (upd H (r a) (.frz ob u)) r2 h2.next H2 → frzO (h2.get a) = true →
      r2 a = r a ∧ H2 (r a) = some (.frz ob u) ∧ Sim K r2 (h2.put a o) (upd H2 (r a) u) ∧ Ext K r h.next H r2 h2.next (upd H2 (r a) u) ∧ Ext0 K r2 h2.next H2 r2 h2.next (upd H2 (r a) u) := by
  obtain ⟨la, w⟩ := S.obj a o ha
  cases o with
  | dic kvs =>
    cases e
    obtain ⟨ws, h1, q⟩ := w
    refine ⟨_, h1, rfl, fun ob => ?_⟩
    have f : Free H (r a) := S.free ha rfl
    refine ⟨S.put ha rfl rfl ⟨ob, ws, upd_same, RepK.ext f.ext q⟩, fun r2 h2 H2 S2 x f2 => ?_⟩
    have er : r2 a = r a := x.at_ a la
    have hd : H2 (r a) = some (.frz ob (.dK ws)) := x.frz _ _ _ upd_same
    obtain ⟨o2, ho2⟩ : ∃ o2, h2.get a = some o2 := by
      cases q2 : h2.get a with
      | none => rw [q2] at f2; cases f2
      | some o2 => exact ⟨o2, rfl⟩
    rw [ho2] at f2
    have x2 := x.open h1 rfl
    refine ⟨er, hd, ?_, x2, open0 hd rfl⟩
    have S3 := S2.open (o := .dic kvs) (u := .dK ws) (ob := ob) ho2 f2 rfl (by rw [er]; exact hd) rfl (by rw [er]; exact ⟨ws, upd_same, RepK.ext x2 q⟩)
    rw [er] at S3
    exact S3
  | dit kvs =>
    cases e
    obtain ⟨ws, h1, q⟩ := w
    refine ⟨_, h1, rfl, fun ob => ?_⟩
    have f : Free H (r a) := S.free ha rfl
    refine ⟨S.put ha rfl rfl ⟨ob, ws, upd_same, RepK.ext f.ext q⟩, fun r2 h2 H2 S2 x f2 => ?_⟩
    have er : r2 a = r a := x.at_ a la
    have hd : H2 (r a) = some (.frz ob (.dT ws)) := x.frz _ _ _ upd_same
    obtain ⟨o2, ho2⟩ : ∃ o2, h2.get a = some o2 := by
      cases q2 : h2.get a with
      | none => rw [q2] at f2; cases f2
      | some o2 => exact ⟨o2, rfl⟩
    rw [ho2] at f2
    have x2 := x.open h1 rfl
    refine ⟨er, hd, ?_, x2, open0 hd rfl⟩
    have S3 := S2.open (o := .dit kvs) (u := .dT ws) (ob := ob) ho2 f2 rfl (by rw [er]; exact hd) rfl (by rw [er]; exact ⟨ws, upd_same, RepK.ext x2 q⟩)
    rw [er] at S3
    exact S3
  | _ => cases e
end

structure EnvR (K : PySem.W.Frag) (r : Rho) (n : Nat) (H : Hp) (σ : L2.St) (env : Env) : Prop where
  len : σ.length = env.length
  at_ : ∀ (i : Nat) (d : D), env[i]? = some (some d) → ∃ v : V, σ[i]? = some (some v) ∧ RepV K r n H v d
section
variable {K : PySem.W.Frag} {r r' : Rho} {n n' : Nat} {H H' : Hp} {σ : L2.St} {env : Env}
theorem EnvR.ext0 (e : Ext0 K r n H r' n' H') (q : EnvR K r n H σ env) : EnvR K r' n' H' σ env := ⟨q.len, fun i d h => let ⟨v, a, b⟩ := q.at_ i d h; ⟨v, a, b.ext0 e⟩⟩
theorem EnvR.ext (e : Ext K r n H r' n' H') (q : EnvR K r n H σ env) : EnvR K r' n' H' σ env := ⟨q.len, fun i d h => let ⟨v, a, b⟩ := q.at_ i d h; ⟨v, a, b.ext e⟩⟩
theorem EnvR.set (q : EnvR K r n H σ env) {v : V} {d : D} (i : Nat) (a : RepV K r n H v d) : EnvR K r n H (σ.set i (some v)) (env.set i (some d)) := by
  refine ⟨by rw [List.length_set, List.length_set]; exact q.len, fun j e h => ?_⟩
  by_cases hj : i = j
  · subst hj
    rw [List.getElem?_set_self'] at h ⊢
    cases hs : env[i]? with
    | none => rw [hs] at h; cases h
    | some x =>
      have hl : i < env.length := (List.getElem?_eq_some_iff.mp hs).1
      rw [hs] at h
      cases h
      have hl2 : i < σ.length := by rw [q.len]; exact hl
      rw [List.getElem?_eq_getElem hl2]
      exact ⟨v, rfl, a⟩
  · rw [List.getElem?_set_ne hj] at h ⊢
    exact q.at_ j e h
theorem EnvR.unset (q : EnvR K r n H σ env) (i : Nat) : EnvR K r n H (σ.set i none) (env.set i none) := by
  refine ⟨by rw [List.length_set, List.length_set]; exact q.len, fun j e h => ?_⟩
  by_cases hj : i = j
  · subst hj
    rw [List.getElem?_set_self'] at h
    cases hs : env[i]? with
    | none => rw [hs] at h; cases h
    | some x => rw [hs] at h; cases h
  · rw [List.getElem?_set_ne hj] at h ⊢
    exact q.at_ j e h
theorem EnvR.over (q : EnvR K r n H σ env) (i : Nat) (v : V) : EnvR K r n H (σ.set i (some v)) (env.set i none) := by
  refine ⟨by rw [List.length_set, List.length_set]; exact q.len, fun j e h => ?_⟩
  by_cases hj : i = j
  · subst hj
    rw [List.getElem?_set_self'] at h
    cases hs : env[i]? with
    | none => rw [hs] at h; cases h
    | some x => rw [hs] at h; cases h
  · rw [List.getElem?_set_ne hj] at h ⊢
    exact q.at_ j e h
theorem EnvR.wipe (q : EnvR K r n H σ env) : ∀ vs : List Nat, EnvR K r n H (wipe σ vs) (wipeE env vs)
  | [] => q
  | v :: vs => EnvR.unset (EnvR.wipe q vs) v
theorem EnvR.start {vs : List V} {ds : List D} (q : RepL K r n H vs ds) {N : List Str} {ns : Nat} (hN : N.length = ns) : EnvR K r n H (L2.start N vs) (start ns ds) := by
  have hl := q.len
  refine ⟨?_, fun i d h => ?_⟩
  · unfold L2.start Z.start
    simp only [List.length_append, List.length_map, List.length_replicate, hl, hN]
  · unfold Z.start at h
    unfold L2.start
    by_cases hi : i < ds.length
    · rw [List.getElem?_append_left (by simpa using hi), List.getElem?_map] at h
      obtain ⟨x, hx, e⟩ := Option.map_eq_some_iff.mp h
      cases e
      obtain ⟨v, hv, rv⟩ := q.get hx
      refine ⟨v, ?_, rv⟩
      rw [List.getElem?_append_left (by simpa [hl] using hi), List.getElem?_map, hv]
      rfl
    · rw [List.getElem?_append_right (by simpa using hi), List.getElem?_replicate] at h
      split at h <;> cases h
end
end Z

set_option maxRecDepth 100000
set_option maxHeartbeats 1000000
namespace Z
open PySem L2

def PG {α β : Type} (K : PySem.W.Frag) (W : XK) (r : Rho) (h : Hm) (H : Hp) (R : Rho → Nat → Hp → β → α → Prop) (Q : β → Hp → Prop) : Except String α → Hm → Prop
  | .ok d, h' => ∀ v r' H', Sim K r' h' H' → Ext K r h.next H r' h'.next H' → R r' h'.next H' v d → Q v H'
  | .error k, h' => ∀ r' H', Sim K r' h' H' → Ext K r h.next H r' h'.next H' → W (.ref (ca K k)) none H'
section
variable {α β : Type} {K : PySem.W.Frag} {W : XK} {r r1 : Rho} {h h1 h' : Hm} {H H1 : Hp} {R : Rho → Nat → Hp → β → α → Prop} {Q : β → Hp → Prop} {res : Except String α}
theorem PG.later (p : PG K W r h H R Q res h') (e : Ext K r h.next H r1 h1.next H1) : PG K W r1 h1 H1 R Q res h' := by
  cases res with
  | ok d => exact fun v r' H' S x q => p v r' H' S (e.trans x) q
  | error k => exact fun r' H' S x => p r' H' S (e.trans x)
end

theorem lim_le {n : Nat} (h : n ≤ lim) : n ≤ sizeLine := Nat.le_trans h (by rw [sizeLine_eq]; decide)
theorem lim_lt {n : Nat} (h : n < lim) : n < sizeLine := Nat.lt_of_lt_of_le h (by rw [sizeLine_eq]; decide)

theorem rep_size (a : Array Nat) : ∀ (n : Nat) (acc : Array Nat), (List.foldl (fun a b => a ++ b) acc (List.replicate n a)).size = acc.size + n * a.size
  | 0, acc => by simp
  | n + 1, acc => by
    rw [List.replicate_succ, List.foldl_cons, rep_size a n, Array.size_append, Nat.succ_mul]
    omega
abbrev rMulS : R2 := fun x y H Q => ∃ s k, x = V.str s ∧ y = V.int k ∧ s.length = 1 ∧ 2 ≤ k ∧ k ≤ 10000 ∧ Q (V.str (repS s k)) H
theorem op_mul_str {X : Cx} : OpR X (binaryOp .Mult) rMulS := by
  intro pins s σ H x y v u Q I rx ry h
  obtain ⟨z, k, rfl, rfl, h1, h2, h3, q⟩ := h
  obtain ⟨t, rfl⟩ := rx
  obtain ⟨t', rfl⟩ := ry
  refine P.mul_str ?_ ?_ ?_ ?_
  · simp; omega
  · intro _ _ hc
    rw [h1] at hc
    have : (2 ^ 63 - 1) / k ≥ 1 := Int.le_ediv_of_mul_le (by omega) (by omega)
    omega
  · intro _ _
    unfold Builtin.Str.tooLong
    rw [h1, sizeLine_eq]
    simp
    omega
  · rw [if_neg (by omega), if_neg (by rw [h1]; simp; omega), Made.post]
    refine ⟨?_, Exists.intro (V.str _) (Exists.intro H ⟨Inv.tok I _, ⟨Exists.intro _ rfl, q⟩⟩)⟩
    show (List.foldl (fun a b => a ++ b) #[] (List.replicate k.toNat z.cps)).size ≤ sizeLine
    have h4 : z.cps.size = 1 := h1
    rw [rep_size, h4, sizeLine_eq]
    simp
    omega
abbrev rCatS : R2 := fun x y H Q => ∃ i j, x = .str i ∧ y = .str j ∧ i.length + j.length ≤ sizeLine ∧ Q (.str (i ++ j)) H
def rB (K : PySem.W.Frag) : Bop → R2
  | .add => fun x y H Q => rI0 (fun i j => .int (i + j)) x y H Q ∨ (rCatS x y H Q ∨ (rCatT K x y H Q ∨ rCat x y H Q))
  | .sub => rI0 fun i j => .int (i - j)
  | .mul => fun x y H Q => rI CMul (fun i j => .int (i * j)) x y H Q ∨ (rI CMulX (fun i j => .int (i * j)) x y H Q ∨ (rRep x y H Q ∨ rMulS x y H Q))
  | .fdiv => rI CDivW fun i j => .int (i / j)
  | .mod => rI (fun _ j => 0 < j) fun i j => .int (i % j)
  | .pow => rI CPow fun i j => .int (i ^ j.toNat)
  | .shl => rI CPow fun i j => .int (i * 2 ^ j.toNat)
  | .shr => rI (fun _ j => 0 ≤ j) fun i j => .int (i / 2 ^ j.toNat)
  | .band => rI0 fun i j => .int (Builtin.bitAnd i j)
  | .bor => rI0 fun i j => .int (Builtin.bitOr i j)
  | .bxor => rI0 fun i j => .int (Builtin.bitXor i j)
def oB : Bop → Operator
  | .add => .Add | .sub => .Sub | .mul => .Mult | .fdiv => .FloorDiv | .mod => .Mod | .pow => .Pow | .shl => .LShift | .shr => .RShift
  | .band => .BitAnd | .bor => .BitOr | .bxor => .BitXor
section
variable {X : Cx}
theorem z_add : OpR X (binaryOp .Add) (rB X.K .add) := op_add.or (op_add_str.or (op_catT.or op_cat))
theorem z_mul : OpR X (binaryOp .Mult) (rB X.K .mul) := op_mul.or (op_mulX.or (op_rep.or op_mul_str))
theorem z_fdiv : OpR X (binaryOp .FloorDiv) (rB X.K .fdiv) := op_fdivW
theorem z_mod : OpR X (binaryOp .Mod) (rB X.K .mod) := op_mod
theorem z_pow : OpR X (binaryOp .Pow) (rB X.K .pow) := op_pow
end
theorem natAbs_big {i : Int} (h : big i) : i.natAbs < 2 ^ 250 := by
  obtain ⟨h1, h2⟩ := h
  omega
section
variable {K : PySem.W.Frag} {W : XK} {r : Rho} {h h' : Hm} {H : Hp} {Q : VK} {res : Except String D} {v w : V} {x y : D}
theorem s_newlist (S : Sim K r h H) {vs : List V} {xs : List D} (q : RepL K r h.next H vs xs) (p : PG K W r h H (RepV K) Q (.ok (.ref h.next)) (h.new (.lst xs))) : ∀ a, H a = none → Q (.ref a) (upd H a (.lst vs)) := by
  intro a ha
  have x1 := (Free.extN (K := K) (r := r) (n := h.next) (u := .lst vs) (.inl ha))
  have S1 : Sim K (rn r h.next a) (h.new (.lst xs)) (upd H a (.lst vs)) := S.new ha rfl ⟨vs, upd_same, q.ext x1⟩
  have e : V.ref a = .ref (rn r h.next a h.next) := by rw [rn_at]
  exact p _ _ _ S1 x1 (by rw [e]; exact .ref (Nat.lt_succ_self _))
theorem s_newtup (S : Sim K r h H) {vs : List V} {xs : List D} (q : RepL K r h.next H vs xs) (p : PG K W r h H (RepV K) Q (.ok (.tup xs)) h) : ∀ a, H a = none → Q (.ref a) (upd H a (.tup vs)) := by
  intro a ha
  have x1 := (Free.ext (K := K) (r := r) (n := h.next) (u := .tup vs) (.inl ha))
  exact p _ _ _ (S.grow ha) x1 (.tup (.inl (.inl upd_same)) (q.ext x1))
theorem repL_ne {n : Nat} {vs : List V} {x : D} {xs : List D} (q : RepL K r n H vs (x :: xs)) : vs ≠ [] := by
  cases q with
  | cons a b => exact List.cons_ne_nil _ _
theorem s_plain (S : Sim K r h H) {u : V} {d : D} (q : RepV K r h.next H u d) (p : PG K W r h H (RepV K) Q (.ok d) h) : Q u H := p u r H S Ext.refl q
theorem s_bin {o : Bop} (S : Sim K r h H) (rv : RepV K r h.next H v x) (rw_ : RepV K r h.next H w y) (e : binD o x y h = some (res, h')) (p : PG K W r h H (RepV K) Q res h') : rB K o v w H Q := by
  cases o with
  | add =>
    cases rv with
    | int i =>
      cases rw_ with
      | int j => cases e; exact .inl ⟨_, _, rfl, rfl, s_plain S (.int _) p⟩
      | _ => cases e
    | str s =>
      cases rw_ with
      | str t =>
        simp only [binD] at e
        split at e
        · rename_i hl
          cases e
          exact .inr (.inl ⟨_, _, rfl, rfl, lim_le hl, s_plain S (.str _) p⟩)
        · cases e
      | _ => cases e
    | @tup a vs ds hT q =>
      cases rw_ with
      | @tup b us es hU q2 =>
        cases ds with
        | nil => cases e
        | cons d ds =>
          simp only [binD] at e
          split at e
          · rename_i hl
            cases e
            refine .inr (.inr (.inl ⟨a, b, vs, us, rfl, rfl, hT, hU, repL_ne q, ?_, fun eu => ?_, fun _ => ?_⟩))
            · rw [q.len, q2.len, List.length_cons]
              exact lim_le (by omega)
            · subst eu
              cases q2
              simp only [List.append_nil] at p
              exact s_plain S (.tup hT q) p
            · exact s_newtup S (q.app q2) p
          · cases e
      | _ => cases ds <;> cases e
    | @ref a la =>
      cases rw_ with
      | @ref b lb =>
        simp only [binD] at e
        split at e
        · rename_i xs ys ha hb
          split at e
          · rename_i hl
            cases e
            obtain ⟨vs, e1, q1⟩ := (S.obj a _ ha).2
            obtain ⟨us, e2, q2⟩ := (S.obj b _ hb).2
            refine .inr (.inr (.inr ⟨_, _, vs, us, rfl, rfl, e1, e2, ?_, s_newlist S (q1.app q2) p⟩))
            rw [q1.len, q2.len]
            exact lim_le hl
          · cases e
        · cases e
      | _ => cases e
    | _ => cases e
  | sub =>
    cases rv with
    | int i =>
      cases rw_ with
      | int j => cases e; exact ⟨_, _, rfl, rfl, s_plain S (.int _) p⟩
      | _ => cases e
    | _ => cases e
  | mul =>
    cases rv with
    | int i =>
      cases rw_ with
      | int j =>
        simp only [binD] at e
        split at e
        · rename_i hl
          cases e
          rcases hl with hl | hl | hl
          · exact .inl ⟨_, _, rfl, rfl, .inl hl, s_plain S (.int _) p⟩
          · exact .inl ⟨_, _, rfl, rfl, .inr hl, s_plain S (.int _) p⟩
          · exact .inr (.inl ⟨_, _, rfl, rfl, mulx_ok (natAbs_big hl.1) (natAbs_big hl.2) (by decide), s_plain S (.int _) p⟩)
        · cases e
      | _ => cases e
    | str s =>
      cases rw_ with
      | int k =>
        simp only [binD] at e
        split at e
        · rename_i hl
          cases e
          exact .inr (.inr (.inr ⟨_, _, rfl, rfl, hl.1, hl.2.1, hl.2.2, s_plain S (.str _) p⟩))
        · cases e
      | _ => cases e
    | @ref a la =>
      cases rw_ with
      | int k =>
        simp only [binD] at e
        split at e
        · rename_i xs ha
          split at e
          · rename_i hl
            cases e
            obtain ⟨vs, e1, q1⟩ := (S.obj a _ ha).2
            obtain ⟨⟨h1, h2⟩, h3⟩ := hl
            refine .inr (.inr (.inl ⟨_, k, vs, rfl, rfl, e1, by omega, by omega, ?_, s_newlist S (q1.rep _) p⟩))
            rw [q1.len]
            exact lim_le h3
          · cases e
        · cases e
      | _ => cases e
    | _ => cases e
  | fdiv =>
    cases rv with
    | int i =>
      cases rw_ with
      | int j =>
        simp only [binD] at e
        split at e
        · rename_i hl
          cases e
          exact ⟨_, _, rfl, rfl, wide_div hl.1 (b := 250) (by omega) (by decide) (by decide), s_plain S (.int _) p⟩
        · cases e
      | _ => cases e
    | _ => cases e
  | mod =>
    cases rv with
    | int i =>
      cases rw_ with
      | int j =>
        simp only [binD] at e
        split at e
        · rename_i hl
          cases e
          exact ⟨_, _, rfl, rfl, hl, s_plain S (.int _) p⟩
        · cases e
      | _ => cases e
    | _ => cases e
  | pow =>
    cases rv with
    | int i =>
      cases rw_ with
      | int j =>
        simp only [binD] at e
        split at e
        · rename_i hl
          cases e
          obtain ⟨h1, h2, h3, h4⟩ := hl
          exact ⟨_, _, rfl, rfl, ⟨h1, h2, by omega⟩, s_plain S (.int _) p⟩
        · cases e
      | _ => cases e
    | _ => cases e
  | shl =>
    cases rv with
    | int i =>
      cases rw_ with
      | int j =>
        simp only [binD] at e
        split at e
        · rename_i hl
          cases e
          obtain ⟨h1, h2, h3, h4⟩ := hl
          exact ⟨_, _, rfl, rfl, ⟨h1, h2, by omega⟩, s_plain S (.int _) p⟩
        · cases e
      | _ => cases e
    | _ => cases e
  | shr =>
    cases rv with
    | int i =>
      cases rw_ with
      | int j =>
        simp only [binD] at e
        split at e
        · rename_i hl
          cases e
          exact ⟨_, _, rfl, rfl, hl, s_plain S (.int _) p⟩
        · cases e
      | _ => cases e
    | _ => cases e
  | band =>
    cases rv with
    | int i =>
      cases rw_ with
      | int j => cases e; exact ⟨_, _, rfl, rfl, s_plain S (.int _) p⟩
      | _ => cases e
    | _ => cases e
  | bor =>
    cases rv with
    | int i =>
      cases rw_ with
      | int j => cases e; exact ⟨_, _, rfl, rfl, s_plain S (.int _) p⟩
      | _ => cases e
    | _ => cases e
  | bxor =>
    cases rv with
    | int i =>
      cases rw_ with
      | int j => cases e; exact ⟨_, _, rfl, rfl, s_plain S (.int _) p⟩
      | _ => cases e
    | _ => cases e
end
end Z

set_option maxRecDepth 100000
set_option maxHeartbeats 1000000
namespace Z
open PySem L2

abbrev rSgn (b : Bool) : R2 := fun x y H Q => ∃ (c : Nat) (z : Str), x = .str ⟨#[c]⟩ ∧ y = .str z ∧ Q (.bl (if b = true then !decide (c ∈ z.cps.toList) else decide (c ∈ z.cps.toList))) H
abbrev rSub (b : Bool) : R2 := fun x y H Q => ∃ i j, x = .str i ∧ y = .str j ∧ Q (.bl (if b = true then !(!(Builtin.Str.occurrences j i 0 j.length 1).isEmpty) else !(Builtin.Str.occurrences j i 0 j.length 1).isEmpty)) H
abbrev rKey (b : Bool) : R2 := fun x y H Q => ∃ a o, y = .ref a ∧ DGet H a x o ∧ Q (.bl (if b = true then !o.isSome else o.isSome)) H
def rCm (K : PySem.W.Frag) : Cop → R2
  | .eq => fun x y H Q => rEq x y H Q ∨ rEqD K x y H Q
  | .ne => fun x y H Q => rNe x y H Q ∨ rNeD K x y H Q
  | .lt => rI0 fun i j => .bl (decide (i < j))
  | .le => rI0 fun i j => .bl (decide (i ≤ j))
  | .gt => rI0 fun i j => .bl (decide (j < i))
  | .ge => rI0 fun i j => .bl (decide (j ≤ i))
  | .isN => fun x y H Q => (y = .non ∧ Q (.bl (decide (x = .non))) H) ∨ (∃ a b, x = .bl a ∧ y = .bl b ∧ Q (.bl (decide (a = b))) H)
  | .notN => fun x y H Q => (y = .non ∧ Q (.bl (!decide (x = .non))) H) ∨ (∃ a b, x = .bl a ∧ y = .bl b ∧ Q (.bl (!decide (a = b))) H)
  | .inn => fun x y H Q => rSgn false x y H Q ∨ (rSub false x y H Q ∨ (rIn K false x y H Q ∨ rKey false x y H Q))
  | .nin => fun x y H Q => rSgn true x y H Q ∨ (rSub true x y H Q ∨ (rIn K true x y H Q ∨ rKey true x y H Q))
section
variable {X : Cx}
theorem op_nkey (hu : X.A.units + 64 < cLine) : OpR X (compareOp .NotIn) (rKey true) := by
  intro pins s σ H x y v u Q I rx ry h
  obtain ⟨a, o, e, g, q⟩ := h
  subst e
  obtain rfl : u = Value.ref a := ry
  exact d_notIn (by omega) I g rx fun s3 I3 => ⟨.bl (!o.isSome), H, I3, rfl, q⟩
theorem z_eq (hu : X.A.units + 64 < cLine) : OpR X (compareOp .Eq) (rCm X.K .eq) := op_eq.or (op_eqD hu)
theorem z_ne (hu : X.A.units + 64 < cLine) : OpR X (compareOp .NotEq) (rCm X.K .ne) := op_ne.or (op_neD hu)
theorem z_lt (hu : X.A.units + 64 < cLine) : OpR X (compareOp .Lt) (rCm X.K .lt) := op_lt
theorem z_gt (hu : X.A.units + 64 < cLine) : OpR X (compareOp .Gt) (rCm X.K .gt) := op_gt
theorem z_isN (hu : X.A.units + 64 < cLine) : OpR X (compareOp .Is) (rCm X.K .isN) := op_isN.or op_is_bl
theorem z_nin (hu : X.A.units + 64 < cLine) : OpR X (compareOp .NotIn) (rCm X.K .nin) := by
  refine OpR.or (r := rSgn true) ?_ (OpR.or (r := rSub true) ?_ (op_notIn_seq.or (op_nkey hu)))
  · exact op_notIn_sign
  · exact op_notin_str
end

section
variable {K : PySem.W.Frag} {W : XK} {r : Rho} {h h' : Hm} {H : Hp} {Q : VK} {res : Except String D} {v w : V} {x y : D}
theorem mapO_dp {f : D → Option PyData} (hf : ∀ d v pd, RepV K r h.next H v d → f d = some pd → Dp K H v pd) : ∀ {ds : List D} {vs : List V} {ps : List PyData}, RepL K r h.next H vs ds → mapO f ds = some ps → DpAll K H vs ps
  | _, _, _, .nil, e => by cases e; exact .nil
  | d :: ds, _, _, .cons a b, e => by
    unfold mapO at e
    cases e1 : f d with
    | none => rw [e1] at e; cases e
    | some y =>
      cases e2 : mapO f ds with
      | none => rw [e1, e2] at e; cases e
      | some ys =>
        rw [e1, e2] at e
        cases e
        exact .cons (hf _ _ _ a e1) (mapO_dp hf b e2)
theorem dat_dp (S : Sim K r h H) : ∀ (n : Nat) (d : D) (v : V) (pd : PyData), RepV K r h.next H v d → dat h n d = some pd → Dp K H v pd
  | 0, _, _, _, .non, e => by cases e; exact .non
  | 0, _, _, _, .bl b, e => by cases e; exact .bl b
  | 0, _, _, _, .int b, e => by cases e; exact .int b
  | 0, _, _, _, .str b, e => by cases e; exact .str b
  | 0, _, _, _, .tup _ _, e => by cases e
  | 0, _, _, _, .ref _, e => by cases e
  | 0, _, _, _, .exc _ _, e => by cases e
  | 0, _, _, _, .xob _ _ _ _, e => by cases e
  | n + 1, _, _, _, .non, e => by cases e; exact .non
  | n + 1, _, _, _, .bl b, e => by cases e; exact .bl b
  | n + 1, _, _, _, .int b, e => by cases e; exact .int b
  | n + 1, _, _, _, .str b, e => by cases e; exact .str b
  | n + 1, _, _, _, .tup hT q, e => by
    unfold dat at e
    obtain ⟨ps, e1, e2⟩ := Option.map_eq_some_iff.mp e
    subst e2
    exact .tup hT (mapO_dp (dat_dp S n) q e1)
  | n + 1, _, _, _, .ref (a := a) la, e => by
    unfold dat at e
    split at e
    · rename_i xs ha
      obtain ⟨ps, e1, e2⟩ := Option.map_eq_some_iff.mp e
      subst e2
      obtain ⟨vs, h1, q⟩ := (S.obj a _ ha).2
      exact .lst (.inl (.inl h1)) (mapO_dp (dat_dp S n) q e1)
    · rename_i xs ha
      obtain ⟨ps, e1, e2⟩ := Option.map_eq_some_iff.mp e
      subst e2
      obtain ⟨vs, h1, q⟩ := (S.obj a _ ha).2
      exact .lst h1.l (mapO_dp (dat_dp S n) q e1)
    · cases e
  | n + 1, _, _, _, .exc _ _, e => by cases e
  | n + 1, _, _, _, .xob _ _ _ _, e => by cases e
theorem s_eqD {b : Bool} (S : Sim K r h H) (rv : RepV K r h.next H v x) (rw_ : RepV K r h.next H w y) (e : eqD x y h = some b) :
    (scal v w = true ∧ decide (v = w) = b) ∨ ∃ d c, Dp K H v d ∧ Dp K H w c ∧ SeqAt.shaped d = true ∧ SeqAt.shaped c = true ∧ PyData.eqv d c = b := by
  have deepP : ∀ {x y : D}, RepV K r h.next H v x → RepV K r h.next H w y → (match dat h deep x, dat h deep y with
    | some d, some e => if (SeqAt.shaped d && SeqAt.shaped e) = true then some (PyData.eqv d e) else none
    | _, _ => none) = some b → ∃ d c, Dp K H v d ∧ Dp K H w c ∧ SeqAt.shaped d = true ∧ SeqAt.shaped c = true ∧ PyData.eqv d c = b := by
    intro x y rv rw_ e
    split at e
    · rename_i d c e1 e2
      split at e
      · rename_i hs
        cases e
        obtain ⟨s1, s2⟩ := Bool.and_eq_true_iff.mp hs
        exact ⟨d, c, dat_dp S _ _ _ _ rv e1, dat_dp S _ _ _ _ rw_ e2, s1, s2, rfl⟩
      · cases e
    · cases e
  cases rv with
  | int i =>
    cases rw_ with
    | int j =>
      cases e
      refine .inl ⟨rfl, ?_⟩
      by_cases hij : i = j
      · subst hij; simp
      · simp [hij]
    | str t => cases e; exact .inl ⟨rfl, by simp⟩
    | non => exact .inr (deepP (.int i) .non e)
    | bl c => exact .inr (deepP (.int i) (.bl c) e)
    | tup a c => exact .inr (deepP (.int i) (.tup a c) e)
    | ref a => exact .inr (deepP (.int i) (.ref a) e)
    | exc k a => exact .inr (deepP (.int i) (.exc k a) e)
    | xob k1 h1 z1 f1 => exact .inr (deepP (.int i) (.xob k1 h1 z1 f1) e)
  | str s =>
    cases rw_ with
    | str t =>
      cases e
      refine .inl ⟨rfl, ?_⟩
      by_cases hij : s = t
      · subst hij; simp
      · simp [hij]
    | int t => cases e; exact .inl ⟨rfl, by simp⟩
    | non => exact .inr (deepP (.str s) .non e)
    | bl c => exact .inr (deepP (.str s) (.bl c) e)
    | tup a c => exact .inr (deepP (.str s) (.tup a c) e)
    | ref a => exact .inr (deepP (.str s) (.ref a) e)
    | exc k a => exact .inr (deepP (.str s) (.exc k a) e)
    | xob k1 h1 z1 f1 => exact .inr (deepP (.str s) (.xob k1 h1 z1 f1) e)
  | bl s =>
    cases rw_ with
    | bl t =>
      cases e
      refine .inl ⟨rfl, ?_⟩
      by_cases hij : s = t
      · subst hij; simp
      · simp [hij]
    | int c => exact .inr (deepP (.bl s) (.int c) e)
    | non => exact .inr (deepP (.bl s) .non e)
    | str c => exact .inr (deepP (.bl s) (.str c) e)
    | tup a c => exact .inr (deepP (.bl s) (.tup a c) e)
    | ref a => exact .inr (deepP (.bl s) (.ref a) e)
    | exc k a => exact .inr (deepP (.bl s) (.exc k a) e)
    | xob k1 h1 z1 f1 => exact .inr (deepP (.bl s) (.xob k1 h1 z1 f1) e)
  | non =>
    cases rw_ with
    | non => cases e; exact .inl ⟨rfl, by simp⟩
    | int c => exact .inr (deepP .non (.int c) e)
    | bl c => exact .inr (deepP .non (.bl c) e)
    | str c => exact .inr (deepP .non (.str c) e)
    | tup a c => exact .inr (deepP .non (.tup a c) e)
    | ref a => exact .inr (deepP .non (.ref a) e)
    | exc k a => exact .inr (deepP .non (.exc k a) e)
    | xob k1 h1 z1 f1 => exact .inr (deepP .non (.xob k1 h1 z1 f1) e)
  | tup ta tc =>
    cases rw_ with
    | non => exact .inr (deepP (.tup ta tc) .non e)
    | int c => exact .inr (deepP (.tup ta tc) (.int c) e)
    | bl c => exact .inr (deepP (.tup ta tc) (.bl c) e)
    | str c => exact .inr (deepP (.tup ta tc) (.str c) e)
    | tup x y => exact .inr (deepP (.tup ta tc) (.tup x y) e)
    | ref x => exact .inr (deepP (.tup ta tc) (.ref x) e)
    | exc x y => exact .inr (deepP (.tup ta tc) (.exc x y) e)
    | xob k1 h1 z1 f1 => exact .inr (deepP (.tup ta tc) (.xob k1 h1 z1 f1) e)
  | ref ra =>
    cases rw_ with
    | non => exact .inr (deepP (.ref ra) .non e)
    | int c => exact .inr (deepP (.ref ra) (.int c) e)
    | bl c => exact .inr (deepP (.ref ra) (.bl c) e)
    | str c => exact .inr (deepP (.ref ra) (.str c) e)
    | tup x y => exact .inr (deepP (.ref ra) (.tup x y) e)
    | ref x => exact .inr (deepP (.ref ra) (.ref x) e)
    | exc x y => exact .inr (deepP (.ref ra) (.exc x y) e)
    | xob k1 h1 z1 f1 => exact .inr (deepP (.ref ra) (.xob k1 h1 z1 f1) e)
  | exc k a =>
    cases rw_ with
    | non => exact .inr (deepP (.exc k a) .non e)
    | int c => exact .inr (deepP (.exc k a) (.int c) e)
    | bl c => exact .inr (deepP (.exc k a) (.bl c) e)
    | str c => exact .inr (deepP (.exc k a) (.str c) e)
    | tup x y => exact .inr (deepP (.exc k a) (.tup x y) e)
    | ref x => exact .inr (deepP (.exc k a) (.ref x) e)
    | exc x y => exact .inr (deepP (.exc k a) (.exc x y) e)
    | xob k1 h1 z1 f1 => exact .inr (deepP (.exc k a) (.xob k1 h1 z1 f1) e)
  | xob k h z f =>
    cases rw_ with
    | non => exact .inr (deepP (.xob k h z f) .non e)
    | int c => exact .inr (deepP (.xob k h z f) (.int c) e)
    | bl c => exact .inr (deepP (.xob k h z f) (.bl c) e)
    | str c => exact .inr (deepP (.xob k h z f) (.str c) e)
    | tup x y => exact .inr (deepP (.xob k h z f) (.tup x y) e)
    | ref x => exact .inr (deepP (.xob k h z f) (.ref x) e)
    | exc x y => exact .inr (deepP (.xob k h z f) (.exc x y) e)
    | xob k1 h1 z1 f1 => exact .inr (deepP (.xob k h z f) (.xob k1 h1 z1 f1) e)
theorem flat_of (rv : RepV K r h.next H v x) (f : flatD x = true) : flatV v = true := by
  cases rv <;> first | rfl | cases f
theorem flatL_of : ∀ {ds : List D} {vs : List V}, RepL K r h.next H vs ds → ds.all flatD = true → vs.all flatV = true
  | _, _, .nil, _ => rfl
  | _, _, .cons a b, f => by
    rw [List.all_cons, Bool.and_eq_true_iff] at f
    rw [List.all_cons, flat_of a f.1, flatL_of b f.2]
    rfl
theorem eqF_of (rv : RepV K r h.next H v x) (rw_ : RepV K r h.next H w y) (f : flatD x = true) (g : flatD y = true) : eqV v w = eqF x y := by
  cases rv with
  | tup a b => cases f
  | ref a => cases f
  | _ => cases rw_ <;> first | rfl | cases g
theorem inL_of (rv : RepV K r h.next H v x) (f : flatD x = true) : ∀ {ds : List D} {vs : List V}, RepL K r h.next H vs ds → ds.all flatD = true → inV v vs = ds.any fun y => eqF y x
  | _, _, .nil, _ => rfl
  | _, _, .cons a b, g => by
    rw [List.all_cons, Bool.and_eq_true_iff] at g
    have ih := inL_of rv f b g.2
    unfold inV at ih ⊢
    rw [List.any_cons, List.any_cons, ih, eqF_of a rv g.1 f]
theorem key_of (rv : RepV K r h.next H v x) {k : Key} (e : key? x = some k) : v = kV k := by
  cases rv with
  | int i => cases e; rfl
  | str s => cases e; rfl
  | _ => cases e
theorem keys_of : ∀ {ds : List D} {vs : List V} {ks : List Key}, RepL K r h.next H vs ds → keys? ds = some ks → vs = ks.map kV
  | _, _, _, .nil, e => by cases e; rfl
  | d :: ds, _, _, .cons a b, e => by
    unfold keys? at e
    cases e1 : key? d with
    | none => rw [e1] at e; cases e
    | some y =>
      cases e2 : keys? ds with
      | none => rw [e1, e2] at e; cases e
      | some ys =>
        rw [e1, e2] at e
        cases e
        rw [key_of a e1, keys_of b e2]
        rfl
theorem repKey (k : Key) : RepV K r h.next H (kV k) (keyD k) := by
  cases k with
  | inl i => exact .int i
  | inr s => exact .str s
theorem repKeyL : ∀ ks : List Key, RepL K r h.next H (ks.map kV) (ks.map keyD)
  | [] => .nil
  | k :: ks => .cons (repKey k) (repKeyL ks)
theorem repKeys {ws : List (Key × V)} {kvs : List (Key × D)} (q : RepK K r h.next H ws kvs) : RepL K r h.next H (ws.map fun kv => kV kv.1) (kvs.map fun kv => keyD kv.1) := by
  have e1 : (ws.map fun kv => kV kv.1) = (ws.map (·.1)).map kV := by rw [List.map_map]; rfl
  have e2 : (kvs.map fun kv => keyD kv.1) = (kvs.map (·.1)).map keyD := by rw [List.map_map]; rfl
  rw [e1, e2, q.1]
  exact repKeyL _
end
section
variable {κ : Type} [DecidableEq κ] {K : PySem.W.Frag} {r : Rho} {n : Nat} {H : Hp}
theorem repK_get (k : κ) : ∀ {kvs : List (κ × D)} {ws : List (κ × V)}, RepK K r n H ws kvs →
    (∀ d, kget kvs k = some d → ∃ u, valV ws k = some u ∧ RepV K r n H u d) ∧ (kget kvs k = none → valV ws k = none)
  | [], [], _ => ⟨fun d e => (by cases e), fun _ => rfl⟩
  | [], w :: ws, q => nomatch q.1
  | p :: kvs, [], q => nomatch q.1
  | p :: kvs, w :: ws, q => by
    obtain ⟨q1, q2⟩ := q
    simp only [List.map_cons, List.cons.injEq] at q1
    simp only [List.map_cons] at q2
    cases q2 with
    | cons a b =>
      by_cases hk : p.1 = k
      · have hw : w.1 = k := q1.1.trans hk
        rw [valV_pos hw]
        have e : kget (p :: kvs) k = some p.2 := by simp [kget, List.find?_cons, hk]
        rw [e]
        exact ⟨fun d z => by cases z; exact ⟨_, rfl, a⟩, fun z => by cases z⟩
      · have hw : ¬ w.1 = k := fun z => hk (q1.1.symm.trans z)
        rw [valV_neg hw]
        have e : kget (p :: kvs) k = kget kvs k := by simp [kget, List.find?_cons, hk]
        rw [e]
        exact repK_get k ⟨q1.2, b⟩
end
section
variable {K : PySem.W.Frag} {W : XK} {r : Rho} {h h' : Hm} {H : Hp} {Q : VK} {res : Except String D} {v w : V} {x y : D}
theorem dget_of (S : Sim K r h H) {a : Nat} {o : Option D} (rv : RepV K r h.next H v x) (e : dget h a x = some o) :
    ∃ u, DGet H (r a) v u ∧ (∀ d, o = some d → ∃ z, u = some z ∧ RepV K r h.next H z d) ∧ (o = none → u = none) := by
  unfold dget at e
  split at e
  · rename_i kvs ha
    obtain ⟨k, e1, e2⟩ := Option.map_eq_some_iff.mp e
    obtain ⟨ws, h1, q⟩ := (S.obj a _ ha).2
    obtain ⟨g1, g2⟩ := repK_get k q
    rw [key_of rv e1]
    refine ⟨_, DGet.k h1, fun d z => ?_, fun z => ?_⟩
    · rw [z] at e2
      exact g1 d e2
    · rw [z] at e2
      exact g2 e2
  · rename_i kvs ha
    obtain ⟨k, e1, e2⟩ := Option.map_eq_some_iff.mp e
    obtain ⟨ob, ws, h1, q⟩ := (S.obj a _ ha).2
    obtain ⟨g1, g2⟩ := repK_get k q
    rw [key_of rv e1]
    refine ⟨_, Or.inl ⟨ws, k, .inr ⟨ob, h1⟩, rfl, rfl⟩, fun d z => ?_, fun z => ?_⟩
    · rw [z] at e2
      exact g1 d e2
    · rw [z] at e2
      exact g2 e2
  · cases e
theorem s_in {b : Bool} (S : Sim K r h H) (rv : RepV K r h.next H v x) (rw_ : RepV K r h.next H w y) (e : inD x y h = some b) (g : Bool) (p : Q (.bl (if g = true then !b else b)) H) :
    rSgn g v w H Q ∨ (rSub g v w H Q ∨ (rIn K g v w H Q ∨ rKey g v w H Q)) := by
  cases rw_ with
  | str z =>
    cases rv with
    | str s =>
      simp only [inD, Option.some.injEq] at e
      unfold inS at e
      split at e
      · rename_i h1
        refine .inl ⟨s.cps.getD 0 0, z, ?_, rfl, ?_⟩
        · have e1 : s.cps = #[s.cps.getD 0 0] := by
            apply Array.ext
            · simpa using h1
            · intro i hi1 hi2
              have : i = 0 := by simp at hi2; exact hi2
              subst this
              simp [Array.getD, hi1]
          obtain ⟨c⟩ := s
          simp only at e1 ⊢
          exact congrArg (fun c => V.str ⟨c⟩) e1
        · subst e
          exact p
      · refine .inr (.inl ⟨s, z, rfl, rfl, ?_⟩)
        subst e
        exact p
    | _ => cases e
  | @tup a vs ds hT q =>
    simp only [inD, inL] at e
    split at e
    · rename_i hf
      cases e
      refine .inr (.inr (.inl ⟨a, vs, rfl, .inr hT, flat_of rv hf.1, flatL_of q hf.2, ?_⟩))
      rw [inL_of rv hf.1 q hf.2]
      exact p
    · cases e
  | @ref a la =>
    simp only [inD] at e
    split at e
    · rename_i xs ha
      obtain ⟨vs, h1, q⟩ := (S.obj a _ ha).2
      simp only [inL] at e
      split at e
      · rename_i hf
        cases e
        refine .inr (.inr (.inl ⟨_, vs, rfl, .inl (.inl (.inl h1)), flat_of rv hf.1, flatL_of q hf.2, ?_⟩))
        rw [inL_of rv hf.1 q hf.2]
        exact p
      · cases e
    · rename_i xs ha
      obtain ⟨vs, h1, q⟩ := (S.obj a _ ha).2
      simp only [inL] at e
      split at e
      · rename_i hf
        cases e
        refine .inr (.inr (.inl ⟨_, vs, rfl, .inl h1.l, flat_of rv hf.1, flatL_of q hf.2, ?_⟩))
        rw [inL_of rv hf.1 q hf.2]
        exact p
      · cases e
    · rename_i kvs ha
      obtain ⟨o, e1, e2⟩ := Option.map_eq_some_iff.mp e
      obtain ⟨u, d1, d2, d3⟩ := dget_of S rv e1
      refine .inr (.inr (.inr ⟨_, u, rfl, d1, ?_⟩))
      have e3 : u.isSome = b := by
        rw [← e2]
        cases o with
        | none =>
          rw [d3 rfl]
          rfl
        | some d =>
          obtain ⟨z, ez, _⟩ := d2 d rfl
          rw [ez]
          rfl
      rw [e3]
      exact p
    · rename_i kvs ha
      obtain ⟨o, e1, e2⟩ := Option.map_eq_some_iff.mp e
      obtain ⟨u, d1, d2, d3⟩ := dget_of S rv e1
      refine .inr (.inr (.inr ⟨_, u, rfl, d1, ?_⟩))
      have e3 : u.isSome = b := by
        rw [← e2]
        cases o with
        | none =>
          rw [d3 rfl]
          rfl
        | some d =>
          obtain ⟨z, ez, _⟩ := d2 d rfl
          rw [ez]
          rfl
      rw [e3]
      exact p
    · cases e
  | _ => cases e
theorem s_cmp {o : Cop} {b : Bool} (S : Sim K r h H) (rv : RepV K r h.next H v x) (rw_ : RepV K r h.next H w y) (e : cmpD o x y h = some b) (p : Q (.bl b) H) : rCm K o v w H Q := by
  cases o with
  | eq =>
    rcases s_eqD S rv rw_ e with ⟨h1, h2⟩ | ⟨d, c, h1, h2, h3, h4, h5⟩
    · exact .inl ⟨h1, by rw [h2]; exact p⟩
    · exact .inr ⟨d, c, h1, h2, h3, h4, by rw [h5]; exact p⟩
  | ne =>
    obtain ⟨k, e1, e2⟩ := Option.map_eq_some_iff.mp (show (eqD x y h).map (fun b => !b) = some b from e)
    subst e2
    rcases s_eqD S rv rw_ e1 with ⟨h1, h2⟩ | ⟨d, c, h1, h2, h3, h4, h5⟩
    · exact .inl ⟨h1, by rw [h2]; exact p⟩
    · exact .inr ⟨d, c, h1, h2, h3, h4, by rw [h5]; exact p⟩
  | lt =>
    cases rv with
    | int i =>
      cases rw_ with
      | int j => cases e; exact ⟨_, _, rfl, rfl, p⟩
      | _ => cases e
    | _ => cases e
  | le =>
    cases rv with
    | int i =>
      cases rw_ with
      | int j => cases e; exact ⟨_, _, rfl, rfl, p⟩
      | _ => cases e
    | _ => cases e
  | gt =>
    cases rv with
    | int i =>
      cases rw_ with
      | int j => cases e; exact ⟨_, _, rfl, rfl, p⟩
      | _ => cases e
    | _ => cases e
  | ge =>
    cases rv with
    | int i =>
      cases rw_ with
      | int j => cases e; exact ⟨_, _, rfl, rfl, p⟩
      | _ => cases e
    | _ => cases e
  | isN =>
    cases rw_ with
    | non => cases rv <;> (cases e; exact .inl ⟨rfl, by simpa using p⟩)
    | bl b => cases rv <;> (cases e; try exact .inr ⟨_, _, rfl, rfl, p⟩)
    | _ => cases rv <;> cases e
  | notN =>
    cases rw_ with
    | non => cases rv <;> (cases e; exact .inl ⟨rfl, by simpa using p⟩)
    | bl b => cases rv <;> (cases e; try exact .inr ⟨_, _, rfl, rfl, p⟩)
    | _ => cases rv <;> cases e
  | inn => exact s_in S rv rw_ e false p
  | nin =>
    obtain ⟨k, e1, e2⟩ := Option.map_eq_some_iff.mp (show (inD x y h).map (fun b => !b) = some b from e)
    subst e2
    exact s_in S rv rw_ e1 true p

theorem atD_of {xs : List D} {vs : List V} {i : Int} {d : D} (q : RepL K r h.next H vs xs) (e : atD xs i = some d) : ∃ u, atI vs i = some u ∧ RepV K r h.next H u d := by
  have hl := q.len
  unfold atD at e
  unfold L2.atI L2.ixN
  by_cases h0 : 0 ≤ i
  · rw [if_pos h0] at e ⊢
    have hi : i.toNat < xs.length := (List.getElem?_eq_some_iff.mp e).1
    rw [if_pos (show i < (vs.length : Int) by omega)]
    exact q.get e
  · rw [if_neg h0] at e ⊢
    by_cases h1 : -(xs.length : Int) ≤ i
    · rw [if_pos h1] at e
      rw [if_pos (show -(vs.length : Int) ≤ i by omega), hl]
      exact q.get e
    · rw [if_neg h1] at e
      cases e
theorem atS_of {xs : List Nat} {i : Int} {c : Nat} (e : atD xs i = some c) : atI xs i = some c := by
  unfold atD at e
  unfold L2.atI L2.ixN
  by_cases h0 : 0 ≤ i
  · rw [if_pos h0] at e ⊢
    have hi : i.toNat < xs.length := (List.getElem?_eq_some_iff.mp e).1
    rw [if_pos (show i < (xs.length : Int) by omega)]
    exact e
  · rw [if_neg h0] at e ⊢
    by_cases h1 : -(xs.length : Int) ≤ i
    · rw [if_pos h1] at e
      rw [if_pos h1]
      exact e
    · rw [if_neg h1] at e
      cases e
theorem s_idx {d : D} (S : Sim K r h H) (rv : RepV K r h.next H v x) (rw_ : RepV K r h.next H w y) (e : idxD x y h = some d) (p : PG K W r h H (RepV K) Q (.ok d) h) : rIx K v w H Q := by
  cases rw_ with
  | int i =>
    cases rv with
    | @tup a vs ds hT q =>
      obtain ⟨u, e1, q1⟩ := atD_of q e
      exact .inr (.inl ⟨a, vs, i, u, rfl, rfl, hT, e1, s_plain S q1 p⟩)
    | @ref a la =>
      simp only [idxD] at e
      split at e
      · rename_i xs ha
        obtain ⟨vs, h1, q⟩ := (S.obj a _ ha).2
        obtain ⟨u, e1, q1⟩ := atD_of q e
        exact .inl ⟨_, vs, i, u, rfl, rfl, .inl (.inl h1), e1, s_plain S q1 p⟩
      · rename_i xs ha
        obtain ⟨vs, h1, q⟩ := (S.obj a _ ha).2
        obtain ⟨u, e1, q1⟩ := atD_of q e
        exact .inl ⟨_, vs, i, u, rfl, rfl, h1.l, e1, s_plain S q1 p⟩
      · cases e
    | str z =>
      simp only [idxD] at e
      split at e
      · rename_i hl
        obtain ⟨c, e1, e2⟩ := Option.map_eq_some_iff.mp e
        subst e2
        exact .inr (.inr ⟨z, i, c, rfl, rfl, lim_le hl, atS_of e1, s_plain S (.str _) p⟩)
      · cases e
    | _ => cases e
  | _ => cases rv <;> cases e

theorem sI_eq : sI = HT.sIx := by
  funext n d o
  cases o <;> rfl
theorem cut_of {xs : List D} {vs : List V} (lo hi : Option Int) (q : RepL K r h.next H vs xs) : RepL K r h.next H (cutV vs lo hi) (cut xs lo hi) := by
  unfold cutV cut
  rw [sI_eq, q.len]
  exact (q.drop _).take _
theorem cut_all {xs : List D} {lo hi : Option Int} (e : HT.sIx xs.length 0 lo = 0 ∧ HT.sIx xs.length xs.length hi = xs.length) : cut xs lo hi = xs := by
  unfold cut
  rw [sI_eq, e.1, e.2]
  simp
def rSlZ (K : PySem.W.Frag) : V → Option Int → Option Int → Hp → VK → Prop := fun x lo hi H Q => rSlL K x lo hi H Q ∨ (rSlA K x lo hi H Q ∨ rSlS x lo hi H Q)
theorem z_slice {X : Cx} : SlR X (rSlZ X.K) := sl_list.or (sl_tupA.or sl_str)
theorem s_slc {lo hi : Option Int} (S : Sim K r h H) (rv : RepV K r h.next H v x) (e : slcD x lo hi h = some (res, h')) (p : PG K W r h H (RepV K) Q res h') : rSlZ K v lo hi H Q := by
  cases rv with
  | @tup a vs ds hT q =>
    cases e
    refine .inr (.inl ⟨a, vs, rfl, hT, fun al => ?_, fun _ => s_newtup S (cut_of lo hi q) p⟩)
    rw [q.len] at al
    rw [cut_all al] at p
    exact s_plain S (.tup hT q) p
  | @ref a la =>
    simp only [slcD] at e
    split at e
    · rename_i xs ha
      obtain ⟨vs, h1, q⟩ := (S.obj a _ ha).2
      cases e
      exact .inl ⟨_, vs, rfl, .inl (.inl h1), s_newlist S (cut_of lo hi q) p⟩
    · rename_i xs ha
      obtain ⟨vs, h1, q⟩ := (S.obj a _ ha).2
      cases e
      exact .inl ⟨_, vs, rfl, h1.l, s_newlist S (cut_of lo hi q) p⟩
    · cases e
  | str z =>
    simp only [slcD] at e
    split at e
    · rename_i hl
      cases e
      refine .inr (.inr ⟨z, rfl, lim_le hl, ?_⟩)
      have e1 : cutS z lo hi = cutT z lo hi := by
        unfold cutS cutT
        rw [sI_eq]
      rw [e1]
      exact s_plain S (.str _) p
    · cases e
  | _ => cases e

theorem s_tru {b : Bool} (S : Sim K r h H) (rv : RepV K r h.next H v x) (e : truD x h = some b) : TruV K v H b := by
  cases rv with
  | non => cases e; rfl
  | bl c => cases e; rfl
  | int i => cases e; rfl
  | exc k a => cases e
  | xob k h z f => cases e
  | str s =>
    simp only [truD] at e
    split at e
    · rename_i hl
      cases e
      exact ⟨lim_le hl, rfl⟩
    · cases e
  | @tup a vs ds hT q =>
    cases e
    refine .inr (.inl ⟨vs, hT, ?_⟩)
    cases q <;> rfl
  | @ref a la =>
    simp only [truD] at e
    split at e
    · rename_i xs ha
      obtain ⟨vs, h1, q⟩ := (S.obj a _ ha).2
      cases e
      refine .inl ⟨vs, .inl (.inl h1), ?_⟩
      cases q <;> rfl
    · rename_i xs ha
      obtain ⟨vs, h1, q⟩ := (S.obj a _ ha).2
      cases e
      refine .inl ⟨vs, h1.l, ?_⟩
      cases q <;> rfl
    · rename_i kvs ha
      obtain ⟨ws, h1, q⟩ := (S.obj a _ ha).2
      cases e
      refine .inr (.inr ⟨ws, h1, ?_⟩)
      have el : ws.length = kvs.length := by simpa using congrArg List.length q.1
      cases ws <;> cases kvs <;> first | rfl | cases el
    · cases e
end
end Z

set_option maxRecDepth 100000
set_option maxHeartbeats 4000000
namespace Z.MinD
open PySem
open Sem (wp)
def kw (d : Value) : List (Str × Value) := [(("default" : Str), d)]
section
variable {prog : Program} {w : World} {A : Around} {R : Result → Shared → Prop} {I : Addr} {fp wr : List Addr} {n : Nat} {P : Nat → Value → Prop} {St : Nat → Heap → Prop} {d : Value}
theorem nm : (toString "min" ++ toString ".loop" : String) = "min.loop" := by decide
theorem on (W : Walks prog w A.in1 I fp wr n P St) (bt : Nat → Nat → Bool) (hcmp : CmpOf prog w A.in1 .Lt P bt) (S : Addr) (hSf : S ∉ fp) :
    ∀ (k j : Nat) (s : Shared) (vb : Value) (c : Nat), n - (j + 1) = k → j + 1 ≤ n → St (j + 1) s.heap → P (argBest bt j) vb →
    s.heap.get? S = some { cls := .type "list", dict := none, data := .seq #[vb, vb] c, slots := #[] } →
    (∀ v h' tk, P (argBest bt (n - 1)) v → (∀ b o, b ∉ wr → b ≠ S → s.heap.get? b = some o → h'.get? b = some o) → R (.ok (.ret v)) { s with heap := h', toks := tk }) →
    codeAny (model prog w) A (.builtin "min.loop" ⟨[.ref I, .none, .ref S], kw d⟩) R s := by
  have hSw : S ∉ wr := fun h => hSf (W.sub _ h)
  intro k
  induction k with
  | zero =>
    intro j s vb c hk hj hst hPb hS hR
    have hin : j + 1 = n := by omega
    refine codeAny_builtin F.entry_min_loop ?_
    rw [Around.under_plainId F.plain_min_loop _]
    refine wpAny_bind (wpAny_seqItems hS rfl ?_)
    show wpAny _ A.in1 (tryCatch (pyNext (.ref I)) _ >>= _) _ _ s
    refine wpAny_bind (wpAny_tryCatch (W.done s _ _ (hin ▸ hst) fun h' tk hk' => ?_))
    have hS' := hk' S _ hSw hS
    show wpAny _ A.in1 (updateSeq S (fun _ => #[]) >>= _) _ _ _
    refine wpAny_bind (wpAny_updateSeq hS' rfl (wpAny_bind (wpAny_letGo (wpAny_pure ?_))))
    exact hR vb _ tk (by rw [← hin]; exact hPb) fun b o hbw hbS e => (Heap.get?_update_other _ _ (Ne.symm hbS)).trans (hk' b o hbw e)
  | succ k ih =>
    intro j s vb c hk hj hst hPb hS hR
    have hlt : j + 1 < n := by omega
    refine codeAny_builtin F.entry_min_loop ?_
    rw [Around.under_plainId F.plain_min_loop _]
    refine wpAny_bind (wpAny_seqItems hS rfl ?_)
    show wpAny _ A.in1 (tryCatch (pyNext (.ref I)) _ >>= _) _ _ s
    refine wpAny_bind (wpAny_tryCatch (W.item (j + 1) s _ _ hlt hst fun v h' tk hP hst' hk' => ?_))
    have hS' := hk' S _ hSw hS
    show wpAny _ A.in1 (tryCatch (holding [v, v] (richCompare .Lt v vb >>= _)) _ >>= _) _ _ _
    refine wpAny_bind (wpAny_tryCatch (wpAny_holding (wpAny_bind (hcmp (j + 1) (argBest bt j) v vb _ _ _ hP hPb ?_))))
    refine wpAny_bind (wpAny_holding (wpAny_truthy_bool ?_))
    refine wpAny_bind (wpAny_letGo (wpAny_pure ?_))
    cases hb : bt (j + 1) (argBest bt j) with
    | true =>
      simp only [if_true]
      refine wpAny_bind (wpAny_updateSeq hS' rfl (wpAny_bind (wpAny_letGo ?_)))
      rw [nm]
      refine wpAny_pure ⟨plainId_quiet F.plain_min_loop _, ih (j + 1) _ v _ (by omega) hlt (W.frame _ _ _ hst' fun b hbf o e => ?_) (by simp only [argBest, hb, if_true]; exact hP) (Heap.get?_update_self _ hS' rfl)
        fun v' h'' tk'' hP' hk'' => hR v' h'' tk'' hP' fun b o hbw hbS e => hk'' b o hbw hbS ((Heap.get?_update_other _ _ (Ne.symm hbS)).trans (hk' b o hbw e))⟩
      exact (Heap.get?_update_other _ _ (fun h : S = b => hSf (by rw [h]; exact hbf))).trans e
    | false =>
      simp only [Bool.false_eq_true, if_false]
      refine wpAny_bind (wpAny_letGo ?_)
      rw [nm]
      exact wpAny_pure ⟨plainId_quiet F.plain_min_loop _, ih (j + 1) _ vb c (by omega) hlt hst' (by simp only [argBest, hb, Bool.false_eq_true, if_false]; exact hPb) hS'
        fun v' h'' tk'' hP' hk'' => hR v' h'' tk'' hP' fun b o hbw hbS e => hk'' b o hbw hbS (hk' b o hbw e)⟩
theorem first (W : Walks prog w A.in1 I fp wr n P St) (bt : Nat → Nat → Bool) (hcmp : CmpOf prog w A.in1 .Lt P bt) (S : Addr) (hSf : S ∉ fp) {s : Shared} {c : Nat} (hst : St 0 s.heap)
    (hS : s.heap.get? S = some { cls := .type "list", dict := none, data := .seq #[] c, slots := #[] })
    (hR : ∀ v h' tk, (n = 0 → v = d) → (0 < n → P (argBest bt (n - 1)) v) → (∀ b o, b ∉ wr → b ≠ S → s.heap.get? b = some o → h'.get? b = some o) → R (.ok (.ret v)) { s with heap := h', toks := tk }) :
    codeAny (model prog w) A (.builtin "min.loop" ⟨[.ref I, .none, .ref S], kw d⟩) R s := by
  have hSw : S ∉ wr := fun h => hSf (W.sub _ h)
  refine codeAny_builtin F.entry_min_loop ?_
  rw [Around.under_plainId F.plain_min_loop _]
  refine wpAny_bind (wpAny_seqItems hS rfl ?_)
  show wpAny _ A.in1 (tryCatch (pyNext (.ref I)) _ >>= _) _ _ s
  rcases Nat.eq_zero_or_pos n with hn | hn
  · refine wpAny_bind (wpAny_tryCatch (W.done s _ _ (hn ▸ hst) fun h' tk hk' => ?_))
    refine wpAny_bind (wpAny_rule (wpAny_pure ?_))
    exact hR d h' tk (fun _ => rfl) (fun h => absurd h (by omega)) fun b o hbw _ e => hk' b o hbw e
  · refine wpAny_bind (wpAny_tryCatch (W.item 0 s _ _ hn hst fun v h' tk hP hst' hk' => ?_))
    have hS' := hk' S _ hSw hS
    refine wpAny_bind (wpAny_pure ?_)
    refine wpAny_bind (wpAny_updateSeq hS' rfl ?_)
    rw [nm]
    refine wpAny_pure ⟨plainId_quiet F.plain_min_loop _, on W bt hcmp S hSf _ 0 _ v _ rfl hn (W.frame _ _ _ hst' fun b hbf o e => ?_) hP (Heap.get?_update_self _ hS' rfl)
      fun v' h'' tk'' hP' hk'' => hR v' h'' tk'' (fun h => absurd h (by omega)) (fun _ => hP') fun b o hbw hbS e => hk'' b o hbw hbS ((Heap.get?_update_other _ _ (Ne.symm hbS)).trans (hk' b o hbw e))⟩
    exact (Heap.get?_update_other _ _ (fun h : S = b => hSf (by rw [h]; exact hbf))).trans e
end
section
variable {prog : Program} {w : World} {A : Around} {E : Value → Shared → Prop} {s : Shared} {d : Value}
theorem args (a : Value) : argsOk "min" ⟨[a], kw d⟩ := by unfold argsOk kw; kernel_rfl
theorem call_ (hh : A.handled = none) {l : Addr} {xs : Array (Int × Tok)} {Q : Value → Shared → Prop} (hl : s.heap.IsList l (PySem.intItems xs))
    (h : ∀ v h' tk, (xs.size = 0 → v = d) → (0 < xs.size → (PySem.intItems xs)[argBest (fun i j => decide (numAt xs i < numAt xs j)) (xs.size - 1)]? = some v) → (∀ b o, s.heap.get? b = some o → h'.get? b = some o) → Q v { s with heap := h', toks := tk }) :
    wpAny (model prog w) A (call (.builtin "min") [.ref l] (kw d)) Q E s := by
  refine wpAny_call (codeAny_call_builtin F.plain_min F.entry_min ?_)
  have body : wpAny (model prog w) A.in1 (Builtin.«min» ⟨[.ref l], kw d⟩) (fun fin s' => match fin with
      | .done f => (match (Except.ok f : Result) with | .ok (.ret v) => Q v s' | .ok _ => False | .error e => E e s')
      | .again c' => c'.quiet = true ∧ codeAny (model prog w) A c' (fun r s' => match r with | .ok (.ret v) => Q v s' | .ok _ => False | .error e => E e s') s') E s := by
    show wpAny _ A.in1 (Builtin.Builtins.bindParams "min" ["key", "default"] 0 ⟨[], kw d⟩ >>= _) _ _ s
    refine wpAny_bind (wpAny_of_eq (show Builtin.Builtins.bindParams "min" ["key", "default"] 0 ⟨[], kw d⟩ = pure [none, some d] from rfl) ?_)
    refine wpAny_bind (wpAny_pure ?_)
    refine wpAny_bind (iter_intList hl fun s₂ e st hfp hlI => ?_)
    subst e
    refine wpAny_bind (wpAny_newObj_type ?_)
    have W := Walks.list (prog := prog) (w := w) (A := A.in1) hh s.heap.objs.size l hlI (PySem.intItems xs)
    rw [nm]
    refine wpAny_pure ⟨plainId_quiet F.plain_min_loop _, first W _ (CmpOf.ints_lt (numAt xs) (fun _ _ => intItems_at)) _ (fun hm => Nat.lt_irrefl _ (hfp _ hm)) (W.frame _ _ _ st fun b _ o e => Heap.get?_push_of_some _ e) (Heap.get?_push_size _ rfl) fun v h' tk h1 h2 hk => ?_⟩
    have hz : (PySem.intItems xs).size = xs.size := by simp [PySem.intItems]
    rw [hz] at h1 h2
    exact h v h' tk h1 h2 (old_kept fun b o hb e => hk b o hb (Nat.ne_of_lt (Heap.lt_size e)) (Heap.get?_push_of_some _ e))
  simp only [checkBuiltinCall, F.kind_min]
  cases hsig : Manifest.signature? "min" with
  | none => exact wpAny_pure body
  | some sig =>
    have ha := args (d := d) (.ref l)
    simp only [argsOk, hsig] at ha
    have h2 : Bind.checkArgs "min" sig ⟨[.ref l], kw d⟩ = pure () := ha
    show wpAny _ A.in1 (Bind.checkArgs "min" sig ⟨[.ref l], kw d⟩) _ _ s
    rw [h2]; exact wpAny_pure body
end
end Z.MinD

set_option maxRecDepth 100000
set_option maxHeartbeats 4000000
namespace Z.Kept
open PySem L2
section
variable {X : Cx} {pins : List (Addr × Obj)} {σ : L2.St} {H : Hp} {s : Shared} {a : Addr} {oe : Obj}
end
def ends (i : Nat) (a : Addr) (oe : Obj) (D : Ends) : Ends := { nx := fun σ H => D.nx (σ.set i none) (upd H a (.frz oe xT)), rt := fun _ _ => False }
def wish (K : PySem.W.Frag) (c : Value) (i : Nat) (ts : Addr → TS) (D : Ends) : WX := fun cls d σ H =>
  PySem.W.exmOne K cls c = some true ∧ ∀ a oe, H a = none → Zc cls d oe → (∃ vs, oe.data = .fields vs) → ts a (ends i a oe D) (σ.set i (some (.ref a))) H
section
variable {X : Cx} {x n : Str} {c : Value} {i : Nat} {body suite : List Stmt} {b₀ : Stmt} {np pos pos' : Pos} {tb : WX → TS} {ts : Addr → TS}
end
def rIsO (K : PySem.W.Frag) : List V → Hp → VK → Prop := fun xs H Q => ∃ (a D : Addr) (oe : Obj) (c : V) (cv : Value) (b : Bool), xs = [.ref a, c] ∧ H a = some (.frz oe xT) ∧ Zc (.ref D) none oe ∧ (∃ vs, oe.data = .fields vs) ∧ ExcC K D ∧ (∀ u, RelV c u → u = cv) ∧
  PySem.W.kitOne K (.ref D) cv = some b ∧ Q (.bl b) H
end Z.Kept

set_option maxRecDepth 100000
set_option maxHeartbeats 1000000
namespace Z
open PySem L2

abbrev rLenD : List V → Hp → VK → Prop := fun xs H Q => ∃ a kvs, xs = [V.ref a] ∧ H a = some (.dK kvs) ∧ Q (.int kvs.length) H
abbrev rLenA (K : PySem.W.Frag) : List V → Hp → VK → Prop := fun xs H Q => ∃ x n, xs = [x] ∧ LenV K x H n ∧ Q (.int n) H
abbrev rInt1 : List V → Hp → VK → Prop := fun xs H Q => (∃ i, xs = [.int i] ∧ Q (.int i) H) ∨ ∃ k, xs = [.bl k] ∧ Q (.int (if k then 1 else 0)) H
abbrev rIntS : List V → Hp → VK → Prop := fun xs H Q => ∃ a n, xs = [.str a] ∧ PySem.intText? a = some n ∧ a.length ≤ 640 ∧ Q (.int n) H
abbrev rStrI : List V → Hp → VK → Prop := fun xs H Q => ∃ i, xs = [.int i] ∧ i.natAbs.log2 < 1920 ∧ Q (.str (toString i)) H
abbrev rListA (K : PySem.W.Frag) : List V → Hp → VK → Prop := fun xs H Q => ∃ p ys, xs = [.ref p] ∧ (SqL K H p ys ∨ SqT K H p ys) ∧ ∀ l, H l = none → Q (.ref l) (upd H l (.lst ys))
abbrev rTupleA (K : PySem.W.Frag) : List V → Hp → VK → Prop := fun xs H Q => ∃ p ys, xs = [.ref p] ∧ ((SqL K H p ys ∧ ∀ l, H l = none → Q (.ref l) (upd H l (.tup ys))) ∨ (SqT K H p ys ∧ Q (.ref p) H))
abbrev rDictA : List V → Hp → VK → Prop := fun xs H Q => ∃ (a : Addr) (kvs : List (Key × V)), xs = [.ref a] ∧ Rd H a (.dK kvs) ∧ ∀ p, H p = none → Q (.ref p) (upd H p (.dK kvs))
abbrev rMin2 : List V → Hp → VK → Prop := fun xs H Q => ∃ i j, xs = [.int i, .int j] ∧ Q (.int (if j < i then j else i)) H
abbrev rMax2 : List V → Hp → VK → Prop := fun xs H Q => ∃ i j, xs = [.int i, .int j] ∧ Q (.int (if j > i then j else i)) H
abbrev rSrtD : List V → Hp → VK → Prop := fun xs H Q => ∃ (a : Addr) (kvs : List (Key × V)) (ks : List Int), xs = [.ref a] ∧ Rd H a (.dK kvs) ∧ kvs.map (·.1) = ks.map Sum.inl ∧ ks.length < 900000 ∧
    ∀ (ys : List Int) (p : Addr), ys.Perm ks → ys.Pairwise (· ≤ ·) → H p = none → Q (.ref p) (upd H p (.lst (ys.map V.int)))
abbrev rDivmod : List V → Hp → VK → Prop := fun xs H Q => ∃ i j, xs = [.int i, .int j] ∧ CDivP i j ∧ ∀ p, H p = none → Q (.ref p) (upd H p (.tup [.int (i / j), .int (i % j)]))
abbrev rAbs : List V → Hp → VK → Prop := fun xs H Q => ∃ i, xs = [.int i] ∧ Q (.int (if i < 0 then -i else i)) H
def rListDk : List V → Hp → VK → Prop := fun xs H Q => ∃ (a : Addr) (kvs : List (Key × V)), xs = [.ref a] ∧ Rd H a (.dK kvs) ∧ ∀ p, H p = none → Q (.ref p) (upd H p (.lst (kvs.map fun kv => kV kv.1)))
abbrev rMinD (K : PySem.W.Frag) : List V → Hp → VK → Prop := fun xs H Q => ∃ (a : Addr) (ns : List Int) (d : Int), xs = [.ref a, .int d] ∧ SqL K H a (ns.map V.int) ∧ Q (.int (lmin d ns)) H
abbrev rLset (K : PySem.W.Frag) : List V → Hp → VK → Prop := fun xs H Q => ∃ (a : Addr) (ns : List Int), xs = [.ref a] ∧ SqL K H a (ns.map V.int) ∧ ns.Nodup ∧ ns.length ≤ 4000 ∧ Q (.int (ns.length : Nat)) H
def rMinDk (K : PySem.W.Frag) : List V → List V → Hp → VK → Prop
  | [x], [y] => rMinD K [x, y]
  | _, _ => fun _ _ => False
theorem cr_minD {X : Cx} (hc : X.calm = true) : CallRK X (.builtin "min") [Str.ofString "default"] (rMinDk X.K) := by
  intro pins s σ H vs zs us ws Q I r rz h
  cases r with
  | nil => exact h.elim
  | cons r1 rr =>
    cases rr with
    | cons _ _ => exact h.elim
    | nil =>
      cases rz with
      | nil => exact h.elim
      | cons z1 zr =>
        cases zr with
        | cons _ _ => exact h.elim
        | nil =>
          obtain ⟨a, ns, d, e, hs, q⟩ := h
          cases e
          obtain ⟨its, rv, hl, _⟩ := I.list hs
          cases r1
          obtain ⟨td, rfl⟩ := z1
          have hi := rv.ints
          obtain ⟨xs, e⟩ := hi.allInts.items
          have hn : numsOf (intItems xs).toList = ns := by rw [← e]; exact hi.numsOf
          rw [nums_intItems] at hn
          have hl' := hl.isList
          rw [e] at hl'
          refine MinD.call_ (I.ok.hd hc) hl' fun v h' tk h1 h2 hk => ?_
          have hsz : xs.size = ns.length := by rw [← hn, List.length_map, Array.length_toList]
          obtain ⟨t, rfl⟩ : ∃ t, v = .int (lmin d ns) t := by
            by_cases h0 : ns = []
            · rw [h1 (by rw [hsz, h0]; rfl), h0]
              exact ⟨td, rfl⟩
            · have hp : 0 < xs.size := by rw [hsz]; exact List.length_pos_iff.mpr h0
              obtain ⟨t, ht⟩ := intItems_at (h2 hp)
              obtain ⟨q1, q2⟩ := argBest_lt (numAt xs) (xs.size - 1)
              refine ⟨t, ht.trans (congrArg (fun z => Value.int z t) (lmin_eq d _ ns (fun z => absurd z h0) fun _ => ⟨?_, fun a ha => ?_⟩))⟩
              · rw [numAt_eq, hn]; exact PySem.getD_mem (by omega)
              · rw [← hn] at ha
                obtain ⟨j, hj, rfl⟩ := PySem.mem_getD ha
                rw [List.length_map, Array.length_toList] at hj
                rw [← numAt_eq]; exact q2 j (by omega)
          exact ⟨.int _, H, I.kept hk, ⟨_, rfl⟩, q⟩
open PyProof.Rows in
theorem call_srtD {X : Cx} (calm : X.calm = true) : CallR X (.builtin "sorted") rSrtD := by
  rintro pn0 st sg hp0 args vals Post J rr ⟨ad, prs, kys, rfl, rdd, hky, lim, post⟩
  obtain ⟨u0, rfl, ru⟩ := vals1 rr
  cases ru
  obtain ⟨z0, lo0, vs0, rel0, dd0⟩ := dk_rd J.hok rdd
  obtain ⟨ep0, hat0⟩ := dd0.dictAt
  have keyE : vs0.map (·.1) = kys.map Sum.inl := rel0.keys.symm.trans hky
  have lenE : vs0.length = kys.length := by simpa using congrArg List.length keyE
  have sz : sizeLine ≥ 900000 := by rw [sizeLine_eq]; omega
  refine Calls.call_function_entry PyProof.Rows.kind_sorted PyProof.Rows.plain_sorted PyProof.Rows.entry_sorted (PyProof.Rows.args_sorted1 (.ref ad)) ?_
  unfold Builtin.«sorted»
  refine wpAny_bind (m := checkCount "sorted" 1 1 _) (wpAny_pure ?_)
  refine wpAny_bind (PySem.W.kdu_collect (A := X.A.in1) (PySem.W.kdl_dict (knd := mixKind X.prog X.w) (kvs := vs0) (ep := ep0) lo0) (J.ok.hd calm) hat0 (by rw [lenE]; omega) fun hh tt ac hkk hac => ?_)
  have aL : ac.toList.length = kys.length := by rw [Array.length_toList, hac.1, lenE]
  have areI : IntsAre ac.toList kys := by
    refine ints_each aL fun j v ev => ?_
    obtain ⟨k1, x1, w1, w2⟩ := hac.2 j v (by rw [Array.getElem?_toList] at ev; exact ev)
    have w3 : (kys.map (Sum.inl : Int → Key))[j]? = some k1 := by rw [← keyE, List.getElem?_map, w1]; rfl
    rw [List.getElem?_map] at w3
    obtain ⟨y1, w4, w5⟩ := Option.map_eq_some_iff.mp w3
    subst w5
    rcases keyIs_shape (show keyIs (Sum.inl y1) v = true from w2) with ⟨i1, t1, ek, ev1⟩ | ⟨i1, t1, ek, _⟩
    · cases ek; exact ⟨y1, t1, w4, ev1⟩
    · cases ek
  have J1 : Inv X pn0 sg hp0 { st with heap := hh, toks := tt } := J.kept hkk
  refine wpAny_bind (wpAny_newList ?_ (by rw [aL]; omega))
  have hoA : (hh.push (seqObj "list" ac.toList.toArray 0)).get? hh.objs.size = some (seqObj "list" ac.toList.toArray 0) := Heap.get?_push_size _ rfl
  show wpAny _ _ _ _ _ { st with heap := hh.push (seqObj "list" ac.toList.toArray 0), toks := tt }
  refine wpAny_bind (wpAny_holding (wpAny_call_entry PyProof.Rows.slot_list_sort ⟨_, hoA, rfl⟩ PyProof.Rows.entry_list_sort
    (SrtO.list_sort_ord SrtO.swo_int hoA (by rw [aL]; omega) (fun two => SrtO.ints_sortable areI two) fun out o1 o2 => ⟨.none, rfl, ?_⟩) (PyProof.Rows.args_list_sort (.ref hh.objs.size))))
  obtain ⟨k1, k2, k3⟩ := SrtO.ints_out areI o1 o2
  obtain ⟨ef, hef⟩ := PyProof.Rows.sortedHeap_at (vs := ac.toList) (out := out.toArray) hoA
  have outL : ((out.map SrtO.iv).map V.int).length ≤ sizeLine := by
    rw [List.length_map]
    have := k2.length_eq
    omega
  refine wpAny_pure ⟨_, rfl, .ref hh.objs.size, upd hp0 hh.objs.size (.lst ((out.map SrtO.iv).map V.int)), J1.laid (t' := tt) (fun b u eb => ?_) (Nat.le_refl _) ⟨outL, out, ef, vals_of_ints k1, hef⟩, rfl, post _ _ k2 k3 (J1.hok.fresh (Nat.le_refl _))⟩
  have lt : b < hh.objs.size := Heap.lt_size eb
  rw [PyProof.Rows.sortedHeap_old (Nat.ne_of_lt lt) (by rw [size_push']; exact Nat.lt_succ_of_lt lt)]
  exact Heap.get?_push_of_some _ eb
def rBi (K : PySem.W.Frag) : Bi → List V → Hp → VK → Prop
  | .len => fun xs H Q => rLenA K xs H Q ∨ rLenD xs H Q
  | .int => fun xs H Q => rInt1 xs H Q ∨ rIntS xs H Q
  | .str => rStrI
  | .list => fun xs H Q => rListA K xs H Q ∨ rListDk xs H Q
  | .tuple => rTupleA K
  | .dict => rDictA
  | .min2 => rMin2
  | .max2 => rMax2
  | .minD => rMinD K
  | .sum => rSum K
  | .sorted => fun xs H Q => rSortedI K xs H Q ∨ rSrtD xs H Q
  | .divmod => rDivmod
  | .abs => rAbs
  | .any => rAny K
  | .lset => rLset K
section
variable {X : Cx}
theorem z_len : CallR X (.builtin "len") (rBi X.K .len) := CallR.or (r := rLenA X.K) (r' := rLenD) call_len call_lenD
theorem z_int : CallR X (.type "int") (rBi X.K .int) := CallR.or (r := rInt1) (r' := rIntS) call_int1 call_int_str
theorem z_str : CallR X (.type "str") (rBi X.K .str) := call_str_int
theorem z_list (hc : X.calm = true) : CallR X (.type "list") (rBi X.K .list) := CallR.or (r := rListA X.K) (r' := rListDk) call_list_of (call_listD hc)
theorem z_min2 (hc : X.calm = true) : CallR X (.builtin "min") (rBi X.K .min2) := call_min2 hc
end

theorem insI_perm (x : Int) : ∀ l : List Int, (insI x l).Perm (x :: l)
  | [] => .refl _
  | y :: ys => by
    unfold insI
    split
    · exact .refl _
    · exact ((insI_perm x ys).cons y).trans (.swap x y ys)
theorem srt_perm : ∀ l : List Int, (srt l).Perm l
  | [] => .refl _
  | x :: xs => (insI_perm x _).trans ((srt_perm xs).cons x)
theorem insI_sorted (x : Int) : ∀ l : List Int, l.Pairwise (· ≤ ·) → (insI x l).Pairwise (· ≤ ·)
  | [], _ => by simp [insI]
  | y :: ys, h => by
    unfold insI
    have h1 := List.pairwise_cons.mp h
    split
    · rename_i hxy
      refine List.pairwise_cons.mpr ⟨fun z hz => ?_, h⟩
      rcases List.mem_cons.mp hz with rfl | hz
      · exact hxy
      · exact Int.le_trans hxy (h1.1 z hz)
    · rename_i hxy
      refine List.pairwise_cons.mpr ⟨fun z hz => ?_, insI_sorted x ys h1.2⟩
      rcases List.mem_cons.mp ((insI_perm x ys).mem_iff.mp hz) with rfl | hz
      · omega
      · exact h1.1 z hz
theorem srt_sorted : ∀ l : List Int, (srt l).Pairwise (· ≤ ·)
  | [] => .nil
  | x :: xs => insI_sorted x _ (srt_sorted xs)

section
variable {K : PySem.W.Frag} {W : XK} {r : Rho} {h h' : Hm} {H : Hp} {Q : VK} {res : Except String D} {v w : V} {x y : D} {vs : List V} {ds : List D}
theorem s_newdict (S : Sim K r h H) {ws : List (Key × V)} {kvs : List (Key × D)} (q : RepK K r h.next H ws kvs) (p : PG K W r h H (RepV K) Q (.ok (.ref h.next)) (h.new (.dic kvs))) : ∀ a, H a = none → Q (.ref a) (upd H a (.dK ws)) := by
  intro a ha
  have x1 := (Free.extN (K := K) (r := r) (n := h.next) (u := .dK ws) (.inl ha))
  have S1 : Sim K (rn r h.next a) (h.new (.dic kvs)) (upd H a (.dK ws)) := S.new ha rfl ⟨ws, upd_same, RepK.ext x1 q⟩
  have e : V.ref a = .ref (rn r h.next a h.next) := by rw [rn_at]
  exact p _ _ _ S1 x1 (by rw [e]; exact .ref (Nat.lt_succ_self _))
theorem seqOf_of (S : Sim K r h H) (rv : RepV K r h.next H v x) {xs : List D} (e : seqOf x h = some xs) : ∃ p vs, v = .ref p ∧ (SqL K H p vs ∨ SqT K H p vs) ∧ RepL K r h.next H vs xs := by
  cases rv with
  | tup hT q => cases e; exact ⟨_, _, rfl, .inr hT, q⟩
  | @ref a la =>
    simp only [seqOf] at e
    split at e
    · rename_i ys ha
      cases e
      obtain ⟨vs, h1, q⟩ := (S.obj a _ ha).2
      exact ⟨_, vs, rfl, .inl (.inl (.inl h1)), q⟩
    · rename_i ys ha
      cases e
      obtain ⟨vs, h1, q⟩ := (S.obj a _ ha).2
      exact ⟨_, vs, rfl, .inl h1.l, q⟩
    · cases e
  | _ => cases e
theorem lstOf_of (S : Sim K r h H) (rv : RepV K r h.next H v x) {xs : List D} (e : lstOf x h = some xs) : ∃ p vs, v = .ref p ∧ SqL K H p vs ∧ RepL K r h.next H vs xs := by
  cases rv with
  | @ref a la =>
    simp only [lstOf] at e
    split at e
    · rename_i ys ha
      cases e
      obtain ⟨vs, h1, q⟩ := (S.obj a _ ha).2
      exact ⟨_, vs, rfl, .inl (.inl h1), q⟩
    · rename_i ys ha
      cases e
      obtain ⟨vs, h1, q⟩ := (S.obj a _ ha).2
      exact ⟨_, vs, rfl, h1.l, q⟩
    · cases e
  | _ => cases e
theorem one_of {d : D} (q : RepL K r h.next H vs [d]) : ∃ v, vs = [v] ∧ RepV K r h.next H v d := by
  cases q with
  | cons a b => cases b; exact ⟨_, rfl, a⟩
theorem two_of {d e : D} (q : RepL K r h.next H vs [d, e]) : ∃ v w, vs = [v, w] ∧ RepV K r h.next H v d ∧ RepV K r h.next H w e := by
  cases q with
  | cons a b =>
    obtain ⟨w, rfl, c⟩ := one_of b
    exact ⟨_, w, rfl, a, c⟩
theorem s_bi {b : Bi} (S : Sim K r h H) (q : RepL K r h.next H vs ds) (e : biD b ds h = some (res, h')) (p : PG K W r h H (RepV K) Q res h') : rBi K b vs H Q := by
  cases b with
  | len =>
    simp only [biD] at e
    split at e
    · obtain ⟨v, rfl, a⟩ := one_of q
      cases a
      split at e
      · rename_i hl
        cases e
        exact .inl ⟨_, _, rfl, ⟨lim_le hl, rfl⟩, s_plain S (.int _) p⟩
      · cases e
    · obtain ⟨v, rfl, a⟩ := one_of q
      cases a with
      | tup hT q1 =>
        cases e
        refine .inl ⟨_, _, rfl, .inr ⟨_, hT, rfl⟩, ?_⟩
        rw [q1.len]
        exact s_plain S (.int _) p
    · rename_i a0
      obtain ⟨v, rfl, a⟩ := one_of q
      cases a with
      | ref la =>
        split at e
        · rename_i xs ha
          cases e
          obtain ⟨vs, h1, q⟩ := (S.obj a0 _ ha).2
          refine .inl ⟨_, _, rfl, .inl ⟨_, .inl (.inl h1), rfl⟩, ?_⟩
          rw [q.len]
          exact s_plain S (.int _) p
        · rename_i xs ha
          cases e
          obtain ⟨vs, h1, q⟩ := (S.obj a0 _ ha).2
          refine .inl ⟨_, _, rfl, .inl ⟨_, h1.l, rfl⟩, ?_⟩
          rw [q.len]
          exact s_plain S (.int _) p
        · rename_i kvs ha
          cases e
          obtain ⟨ws, h1, q⟩ := (S.obj a0 _ ha).2
          refine .inr ⟨_, ws, rfl, h1, ?_⟩
          have el : ws.length = kvs.length := by simpa using congrArg List.length q.1
          rw [el]
          exact s_plain S (.int _) p
        · cases e
    · cases e
  | int =>
    simp only [biD] at e
    split at e
    · obtain ⟨v, rfl, a⟩ := one_of q
      cases a
      cases e
      exact .inl (.inl ⟨_, rfl, s_plain S (.int _) p⟩)
    · obtain ⟨v, rfl, a⟩ := one_of q
      cases a
      cases e
      exact .inl (.inr ⟨_, rfl, s_plain S (.int _) p⟩)
    · obtain ⟨v, rfl, a⟩ := one_of q
      cases a
      split at e
      · rename_i hl
        split at e
        · rename_i n hn
          cases e
          exact .inr ⟨_, n, rfl, hn, hl, s_plain S (.int _) p⟩
        · cases e
      · cases e
    · cases e
  | str =>
    simp only [biD] at e
    split at e
    · obtain ⟨v, rfl, a⟩ := one_of q
      cases a
      split at e
      · rename_i i hl
        cases e
        refine ⟨i, rfl, ?_, s_plain S (.str _) p⟩
        exact Nat.lt_of_lt_of_le (PySem.Flt.log2_lt_of (show 0 < 250 by decide) (natAbs_big hl)) (by decide)
      · cases e
    · cases e
  | list =>
    simp only [biD] at e
    split at e
    · obtain ⟨v, rfl, a⟩ := one_of q
      split at e
      · rename_i xs hx
        cases e
        obtain ⟨pp, us, e1, e2, e3⟩ := seqOf_of S a hx
        subst e1
        exact .inl ⟨pp, us, rfl, e2, s_newlist S e3 p⟩
      · split at e
        · rename_i a0 _
          cases a with
          | ref la =>
            split at e
            · rename_i kvs ha
              cases e
              obtain ⟨ws, h1, q2⟩ := (S.obj a0 _ ha).2
              exact .inr ⟨_, ws, rfl, .inl h1, s_newlist S (repKeys q2) p⟩
            · cases e
        · cases e
    · cases e
  | tuple =>
    simp only [biD] at e
    split at e
    · obtain ⟨v, rfl, a⟩ := one_of q
      split at e
      · rename_i xs hx
        cases e
        obtain ⟨pp, us, e1, e2, e3⟩ := seqOf_of S a hx
        subst e1
        refine ⟨pp, us, rfl, ?_⟩
        rcases e2 with e2 | e2
        · exact .inl ⟨e2, s_newtup S e3 p⟩
        · exact .inr ⟨e2, s_plain S (.tup e2 e3) p⟩
      · cases e
    · cases e
  | dict =>
    simp only [biD] at e
    split at e
    · rename_i a0
      obtain ⟨v, rfl, a⟩ := one_of q
      cases a with
      | ref la =>
        split at e
        · rename_i kvs ha
          cases e
          obtain ⟨ws, h1, q⟩ := (S.obj a0 _ ha).2
          exact ⟨_, ws, rfl, .inl h1, s_newdict S q p⟩
        · cases e
    · cases e
  | min2 =>
    simp only [biD] at e
    split at e
    · obtain ⟨v, w, rfl, a, b⟩ := two_of q
      cases a
      cases b
      cases e
      exact ⟨_, _, rfl, s_plain S (.int _) p⟩
    · cases e
  | minD =>
    simp only [biD] at e
    split at e
    · obtain ⟨v, w, rfl, a, b⟩ := two_of q
      cases b
      split at e
      · rename_i xs hx
        split at e
        · rename_i ns hn
          cases e
          obtain ⟨pp, us, e1, e2, e3⟩ := lstOf_of S a hx
          subst e1
          rw [e3.ints hn] at e2
          exact ⟨pp, ns, _, rfl, e2, s_plain S (.int _) p⟩
        · cases e
      · cases e
    · cases e
  | max2 =>
    simp only [biD] at e
    split at e
    · obtain ⟨v, w, rfl, a, b⟩ := two_of q
      cases a
      cases b
      cases e
      exact ⟨_, _, rfl, s_plain S (.int _) p⟩
    · cases e
  | sum =>
    simp only [biD] at e
    split at e
    · obtain ⟨v, rfl, a⟩ := one_of q
      split at e
      · rename_i xs hx
        split at e
        · rename_i ns hn
          cases e
          obtain ⟨pp, us, e1, e2, e3⟩ := lstOf_of S a hx
          subst e1
          rw [e3.ints hn] at e2
          exact ⟨pp, ns, rfl, e2, s_plain S (.int _) p⟩
        · cases e
      · cases e
    · cases e
  | any =>
    simp only [biD] at e
    split at e
    · obtain ⟨v, rfl, a⟩ := one_of q
      split at e
      · rename_i xs hx
        split at e
        · rename_i ns hn
          cases e
          obtain ⟨pp, us, e1, e2, e3⟩ := lstOf_of S a hx
          subst e1
          rw [e3.bls hn] at e2
          exact ⟨pp, ns, rfl, e2, s_plain S (.bl _) p⟩
        · cases e
      · cases e
    · cases e
  | lset =>
    simp only [biD] at e
    split at e
    · obtain ⟨v, rfl, a⟩ := one_of q
      split at e
      · rename_i xs hx
        split at e
        · rename_i ns hn
          split at e
          · rename_i hc
            cases e
            obtain ⟨pp, us, e1, e2, e3⟩ := lstOf_of S a hx
            subst e1
            rw [e3.ints hn] at e2
            exact ⟨pp, ns, rfl, e2, hc.1, hc.2, s_plain S (.int _) p⟩
          · cases e
        · cases e
      · cases e
    · cases e
  | sorted =>
    simp only [biD] at e
    split at e
    · obtain ⟨v, rfl, a⟩ := one_of q
      split at e
      · rename_i xs hx
        split at e
        · rename_i ns hn
          cases e
          obtain ⟨pp, us, e1, e2, e3⟩ := lstOf_of S a hx
          subst e1
          rw [e3.ints hn] at e2
          refine .inl ⟨pp, ns, rfl, e2, fun ns' l hp hs hl => ?_⟩
          have en : ns' = srt ns := PySem.W.ksm_same (hp.trans (srt_perm ns).symm) hs (srt_sorted ns)
          subst en
          exact s_newlist S (repInts _) p l hl
        · cases e
      · split at e
        · rename_i a0 n0
          cases a with
          | ref la =>
            split at e
            · rename_i kvs ha
              split at e
              · rename_i ns hn
                split at e
                · rename_i h64
                  cases e
                  obtain ⟨ws, h1, q1⟩ := (S.obj a0 _ ha).2
                  refine .inr ⟨_, ws, ns, rfl, .inl h1, ?_, h64, fun ns' l hp hs hl => ?_⟩
                  · rw [q1.1]
                    clear q1 h1 ha p h64 q
                    induction kvs generalizing ns with
                    | nil => cases hn; rfl
                    | cons kv kvs ih =>
                      obtain ⟨k, d⟩ := kv
                      cases k with
                      | inl i =>
                        simp only [List.map_cons, keyD, ints?] at hn
                        obtain ⟨ms, e1, rfl⟩ := Option.map_eq_some_iff.mp hn
                        rw [List.map_cons, List.map_cons, ih _ e1]
                      | inr s => cases hn
                  · have en : ns' = srt ns := PySem.W.ksm_same (hp.trans (srt_perm ns).symm) hs (srt_sorted ns)
                    subst en
                    exact s_newlist S (repInts _) p l hl
                · cases e
              · cases e
            · cases e
        · cases e
    · cases e
  | divmod =>
    simp only [biD] at e
    split at e
    · obtain ⟨v, w, rfl, a, b⟩ := two_of q
      cases a
      cases b
      split at e
      · rename_i i j hl
        cases e
        refine ⟨i, j, rfl, divp_ok hl.1 ?_, s_newtup S (.cons (.int _) (.cons (.int _) .nil)) p⟩
        have h1 : i.natAbs < 2 ^ 250 := natAbs_big hl.2
        have h2 := PySem.Flt.log2_lt_of (show 0 < 250 by decide) h1
        have h3 : Builtin.Int.intBits i ≤ i.natAbs.log2 + 1 := by
          unfold Builtin.Int.intBits
          split <;> omega
        omega
      · cases e
    · cases e
  | abs =>
    simp only [biD] at e
    split at e
    · obtain ⟨v, rfl, a⟩ := one_of q
      cases a
      cases e
      exact ⟨_, rfl, s_plain S (.int _) p⟩
    · cases e
end
end Z

set_option maxRecDepth 100000
set_option maxHeartbeats 1000000
namespace Z
open PySem L2

def tyB (K : PySem.W.Frag) (b : Bm) (x : V) (H : Hp) : Prop := match b with
  | .append => tyV K "list" x H
  | .pop => tyV K "list" x H
  | .insert => tyV K "list" x H
  | .clear => tyV K "list" x H
  | .index => tyV K "list" x H
  | .get => ∃ a, x = .ref a ∧ IsD H a
  | .get2 => ∃ a, x = .ref a ∧ IsD H a
  | .dpop => ∃ a, x = .ref a ∧ IsD H a
  | _ => ∃ a, x = .str a
def rM (K : PySem.W.Frag) : Bm → V → List V → Hp → VK → Prop
  | .append => rAppend
  | .pop => rPop
  | .insert => fun x vs H Q => ∃ (l : Addr) (xs : List V) (i : Int) (y : V), x = .ref l ∧ vs = [.int i, y] ∧ H l = some (.lst xs) ∧ xs.length < sizeLine ∧ 0 ≤ i ∧ i < 2 ^ 63 ∧
    Q .non (upd H l (.lst (xs.take i.toNat ++ [y] ++ xs.drop i.toNat)))
  | .clear => rClear
  | .index => rIndex K
  | .get => fun x xs H Q => ∃ a k o, x = .ref a ∧ xs = [k] ∧ DGet H a k o ∧ Q (o.getD .non) H
  | .get2 => fun x xs H Q => ∃ a k z o, x = .ref a ∧ xs = [k, z] ∧ DGet H a k o ∧ Q (o.getD z) H
  | .dpop => fun x xs H Q => ∃ a kvs k v, x = .ref a ∧ xs = [kV k] ∧ H a = some (.dK kvs) ∧ valV kvs k = some v ∧ Q v (upd H a (.dK (dropK kvs k)))
  | .join => fun x xs H Q => ∃ a p, ∃ ys : List Str, x = .str a ∧ xs = [.ref p] ∧ (SqL K H p (ys.map V.str) ∨ SqT K H p (ys.map V.str)) ∧
      (ys.map (·.length)).sum + ys.length * a.length ≤ 16777216 ∧ Q (.str (Txt.join a ys)) H
  | .split => fun x xs H Q => ∃ a b, x = .str a ∧ xs = [.str b] ∧ (b.length == 0) = false ∧ a.length + 2 ≤ sizeLine ∧ rNewStrs (Txt.split a b) H Q
  | .partition => fun x xs H Q => ∃ a b, x = .str a ∧ xs = [.str b] ∧ (b.length == 0) = false ∧ a.length ≤ sizeLine ∧
      ∀ p, H p = none → Q (.ref p) (upd H p (.tup [.str (Txt.partition a b).1, .str (Txt.partition a b).2.1, .str (Txt.partition a b).2.2]))
  | .find => fun x xs H Q => ∃ a b, x = .str a ∧ xs = [.str b] ∧ Q (.int (Txt.find a b)) H
  | .isdigit => fun x xs H Q => ∃ a, x = .str a ∧ xs = [] ∧ True ∧ Q (.bl (Txt.isdigit a)) H
def tBmZ (K : PySem.W.Frag) (b : Bm) (to : TE) (t : TA) : TE := fun σ H Q => to σ H fun x H1 => tyB K b x H1 ∧ t σ H1 fun xs H2 => rM K b x xs H2 Q
section
variable {X : Cx} {o e f : Expr} {es : List Expr} {to te tf : TE} {t : TA} {apos cpos : Pos}
theorem zm_append (ho : PE X o to) (ha : PA X (e :: es) t)
    (hbase : attributeBase o "append" X.env (eval o X.env) = eval o X.env := by rfl)
    (hfew : ((backTo cpos (starEach (e :: es) X.env)).all (fun x => !x.1) && (backToKw cpos (keywordEach [] X.env)).all (fun x => x.1.isSome) && decide ((e :: es).length + ([] : List Keyword).length + (if ([] : List Keyword).isEmpty then 0 else 1) < 30)) = true := by rfl)
    (hline : (apos.endLine == cpos.line) = true := by rfl) (hs : starEach (e :: es) X.env = (false, eval e X.env) :: starEach es X.env := by rfl) (hplain : (backTo cpos (starEach es X.env)).any (·.1) = false := by rfl) :
    PE X (.Call (.Attribute o "append" apos) (e :: es) [] cpos) (tBmZ X.K .append to t) :=
  pe_bm PySem.F.plainAttrs_list PySem.F.slot_list_append PySem.F.type_list_append mt_append ho ha hbase hfew hline hs hplain
theorem zm_join (ho : PE X o to) (he : PE X e te) (hs : starEach [e] X.env = [(false, eval e X.env)] := by rfl) (hbase : attributeBase o "join" X.env (eval o X.env) = eval o X.env := by rfl) (hline : (apos.endLine == cpos.line) = true := by rfl) :
    PE X (.Call (.Attribute o "join" apos) [e] [] cpos) (tBmZ X.K .join to (tCons te tNil)) := pe_join ho he hs hbase hline
theorem zm_split (ho : PE X o to) (he : PE X e te) (hs : starEach [e] X.env = [(false, eval e X.env)] := by rfl) (hbase : attributeBase o "split" X.env (eval o X.env) = eval o X.env := by rfl) (hline : (apos.endLine == cpos.line) = true := by rfl) :
    PE X (.Call (.Attribute o "split" apos) [e] [] cpos) (tBmZ X.K .split to (tCons te tNil)) := pe_split ho he hs hbase hline
def up (t : TE) : TE := fun σ H Q => ∃ R : VK, t σ H R ∧ ∀ x H', R x H' → Q x H'
end

section
variable {κ : Type} [DecidableEq κ] {K : PySem.W.Frag} {r : Rho} {n : Nat} {H : Hp}
theorem repK_drop (k : κ) : ∀ {kvs : List (κ × D)} {ws : List (κ × V)}, RepK K r n H ws kvs → RepK K r n H (dropK ws k) (kdrop kvs k)
  | [], [], _ => ⟨rfl, .nil⟩
  | [], w :: ws, q => nomatch q.1
  | p :: kvs, [], q => nomatch q.1
  | p :: kvs, w :: ws, q => by
    obtain ⟨q1, q2⟩ := q
    simp only [List.map_cons, List.cons.injEq] at q1
    simp only [List.map_cons] at q2
    cases q2 with
    | cons a b =>
      have ih := repK_drop k (kvs := kvs) (ws := ws) ⟨q1.2, b⟩
      unfold dropK kdrop at ih ⊢
      by_cases hk : p.1 = k
      · have hw : w.1 = k := q1.1.trans hk
        rw [List.filter_cons_of_neg (by simp [hk, hw]), List.filter_cons_of_neg (by simp [hk, hw])]
        exact ih
      · have hw : ¬ w.1 = k := fun z => hk (q1.1.symm.trans z)
        rw [List.filter_cons_of_pos (by simp [hk, hw]), List.filter_cons_of_pos (by simp [hk, hw])]
        refine ⟨?_, ?_⟩
        · simp only [List.map_cons, q1.1, ih.1]
        · simp only [List.map_cons]
          exact .cons a ih.2
theorem any_key (k : κ) : ∀ {kvs : List (κ × D)} {ws : List (κ × V)}, ws.map (·.1) = kvs.map (·.1) → (ws.any fun kv => decide (kv.1 = k)) = kvs.any fun kv => decide (kv.1 = k)
  | [], [], _ => rfl
  | [], w :: ws, q => nomatch q
  | p :: kvs, [], q => nomatch q
  | p :: kvs, w :: ws, q => by
    simp only [List.map_cons, List.cons.injEq] at q
    rw [List.any_cons, List.any_cons, any_key k q.2, q.1]
theorem repK_map {v : V} {d : D} (k : κ) (a : RepV K r n H v d) : ∀ {kvs : List (κ × D)} {ws : List (κ × V)}, RepK K r n H ws kvs →
    RepK K r n H (ws.map (fun kv => if kv.1 = k then (kv.1, v) else kv)) (kvs.map (fun kv => if kv.1 = k then (kv.1, d) else kv))
  | [], [], _ => ⟨rfl, .nil⟩
  | [], w :: ws, q => nomatch q.1
  | p :: kvs, [], q => nomatch q.1
  | p :: kvs, w :: ws, q => by
    obtain ⟨q1, q2⟩ := q
    simp only [List.map_cons, List.cons.injEq] at q1
    simp only [List.map_cons] at q2
    cases q2 with
    | cons b c =>
      have ih := repK_map k a (kvs := kvs) (ws := ws) ⟨q1.2, c⟩
      by_cases hk : p.1 = k
      · have hw : w.1 = k := q1.1.trans hk
        refine ⟨?_, ?_⟩
        · simp only [List.map_cons, if_pos hk, if_pos hw, q1.1]
          exact congrArg _ ih.1
        · simp only [List.map_cons, if_pos hk, if_pos hw]
          exact .cons a ih.2
      · have hw : ¬ w.1 = k := fun z => hk (q1.1.symm.trans z)
        refine ⟨?_, ?_⟩
        · simp only [List.map_cons, if_neg hk, if_neg hw, q1.1]
          exact congrArg _ ih.1
        · simp only [List.map_cons, if_neg hk, if_neg hw]
          exact .cons b ih.2
theorem repK_put {v : V} {d : D} (k : κ) (a : RepV K r n H v d) {kvs : List (κ × D)} {ws : List (κ × V)} (q : RepK K r n H ws kvs) : RepK K r n H (putK ws k v) (kput kvs k d) := by
  unfold putK kput
  rw [any_key k q.1]
  split
  · exact repK_map k a q
  · refine ⟨?_, ?_⟩
    · rw [List.map_append, List.map_append, q.1]
      rfl
    · rw [List.map_append, List.map_append]
      exact q.2.append1 a
end

section
variable {K : PySem.W.Frag} {W : XK} {r : Rho} {h h' : Hm} {H : Hp} {Q : VK} {res : Except String D} {v w : V} {x y : D} {vs : List V} {ds : List D}
theorem s_rcv {b : Bm} (S : Sim K r h H) (rv : RepV K r h.next H v x) (e : rcv b x h = true) : tyB K b v H := by
  have lst : (lstOf x h).isSome = true → tyV K "list" v H := fun e => by
    obtain ⟨xs, e1⟩ := Option.isSome_iff_exists.mp e
    obtain ⟨p, us, ev, e2, _⟩ := lstOf_of S rv e1
    subst ev
    exact .inl ⟨rfl, us, e2⟩
  have dic : rcv.isDic x h = true → ∃ a, v = .ref a ∧ IsD H a := fun e => by
    unfold rcv.isDic at e
    cases rv with
    | @ref a la =>
      simp only at e
      split at e
      · rename_i kvs ha
        obtain ⟨ws, h1, _⟩ := (S.obj a _ ha).2
        exact ⟨_, rfl, .inl ⟨ws, .inl h1⟩⟩
      · rename_i kvs ha
        obtain ⟨ob, ws, h1, _⟩ := (S.obj a _ ha).2
        exact ⟨_, rfl, .inl ⟨ws, .inr ⟨ob, h1⟩⟩⟩
      · cases e
    | _ => cases e
  cases b with
  | append => exact lst e
  | pop => exact lst e
  | insert => exact lst e
  | clear => exact lst e
  | index => exact lst e
  | get => exact dic e
  | get2 => exact dic e
  | dpop => exact dic e
  | _ => cases rv <;> first | exact ⟨_, rfl⟩ | cases e
theorem s_put {a : Nat} {o0 o : O} {u : HO} {d : D} {z : V} (S : Sim K r h H) (ha : h.get a = some o0) (m0 : mutO o0 = true) (q : RepV K r h.next H z d) (p : PG K W r h H (RepV K) Q (.ok d) (h.put a o)) (m : mutO o = true)
    (w : ∀ H', Ext K r h.next H r h.next H' → H' (r a) = some u → RepO K r h.next H' (r a) o) : Q z (upd H (r a) u) := by
  have x := (S.free ha m0).ext (K := K) (r := r) (n := h.next) (u := u)
  have S1 : Sim K r (h.put a o) (upd H (r a) u) := S.put ha m0 (own_of m) (w _ x upd_same)
  exact p z r _ S1 x (q.ext x)
theorem s_bm {b : Bm} (S : Sim K r h H) (rv : RepV K r h.next H v x) (q : RepL K r h.next H vs ds) (e : bmD b x ds h = some (res, h')) (p : PG K W r h H (RepV K) Q res h') : rM K b v vs H Q := by
  cases b with
  | append =>
    simp only [bmD] at e
    split at e
    · rename_i a d
      obtain ⟨w, rfl, q1⟩ := one_of q
      split at e
      · rename_i xs ha
        split at e
        · rename_i hl
          cases e
          obtain ⟨us, h1, q2⟩ := (S.obj a _ ha).2
          cases rv
          refine ⟨_, us, w, rfl, rfl, h1, by rw [q2.len]; exact lim_lt hl, ?_⟩
          exact s_put S ha rfl .non p rfl fun H' x h2 => ⟨_, h2, (q2.ext x).append1 (q1.ext x)⟩
        · cases e
      · cases e
    · cases e
  | pop =>
    simp only [bmD] at e
    split at e
    · rename_i a
      split at e
      · rename_i xs ha
        split at e
        · rename_i y hy
          cases e
          obtain ⟨us, h1, q2⟩ := (S.obj a _ ha).2
          cases q
          cases rv
          have hy2 : xs[xs.length - 1]? = some y := by rw [← List.getLast?_eq_getElem?]; exact hy
          obtain ⟨u, e1, q3⟩ := q2.get hy2
          rw [← q2.len] at e1
          refine ⟨_, us, u, rfl, rfl, h1, e1, ?_⟩
          refine s_put S ha rfl q3 p rfl fun H' x h2 => ⟨_, h2, ?_⟩
          rw [List.dropLast_eq_take, List.dropLast_eq_take, q2.len]
          exact (q2.ext x).take _
        · cases e
      · cases e
    · cases e
  | get =>
    simp only [bmD] at e
    split at e
    · rename_i a k
      obtain ⟨w, rfl, q1⟩ := one_of q
      cases rv
      split at e
      · rename_i d hd
        cases e
        obtain ⟨u, g, g1, g2⟩ := dget_of S q1 hd
        obtain ⟨z, ez, qz⟩ := g1 _ rfl
        subst ez
        exact ⟨_, w, _, rfl, rfl, g, s_plain S qz p⟩
      · rename_i hd
        cases e
        obtain ⟨u, g, g1, g2⟩ := dget_of S q1 hd
        rw [g2 rfl] at g
        exact ⟨_, w, _, rfl, rfl, g, s_plain S .non p⟩
      · cases e
    · cases e
  | get2 =>
    simp only [bmD] at e
    split at e
    · rename_i a k y
      obtain ⟨w, z0, rfl, q1, q2⟩ := two_of q
      cases rv
      split at e
      · rename_i d hd
        cases e
        obtain ⟨u, g, g1, g2⟩ := dget_of S q1 hd
        obtain ⟨z, ez, qz⟩ := g1 _ rfl
        subst ez
        exact ⟨_, w, z0, _, rfl, rfl, g, s_plain S qz p⟩
      · rename_i hd
        cases e
        obtain ⟨u, g, g1, g2⟩ := dget_of S q1 hd
        rw [g2 rfl] at g
        exact ⟨_, w, z0, _, rfl, rfl, g, s_plain S q2 p⟩
      · cases e
    · cases e
  | dpop =>
    simp only [bmD] at e
    split at e
    · rename_i a k
      obtain ⟨w, rfl, q1⟩ := one_of q
      split at e
      · rename_i kvs ha
        split at e
        · rename_i kq hk
          split at e
          · rename_i d hd
            cases e
            obtain ⟨ws, h1, q2⟩ := (S.obj a _ ha).2
            cases rv
            obtain ⟨z, e1, q3⟩ := (repK_get kq q2).1 _ hd
            rw [key_of q1 hk]
            refine ⟨_, ws, kq, z, rfl, rfl, h1, e1, ?_⟩
            exact s_put S ha rfl q3 p rfl fun H' x h2 => ⟨_, h2, RepK.ext x (repK_drop kq q2)⟩
          · cases e
        · cases e
      · cases e
    · cases e
  | join =>
    simp only [bmD] at e
    split at e
    · rename_i z y
      obtain ⟨w, rfl, q1⟩ := one_of q
      cases rv
      split at e
      · rename_i xs hx
        split at e
        · rename_i ys hy
          split at e
          · rename_i hl
            cases e
            obtain ⟨pp, us, e1, e2, e3⟩ := seqOf_of S q1 hx
            subst e1
            rw [e3.strs hy] at e2
            exact ⟨z, pp, ys, rfl, rfl, e2, hl, s_plain S (.str _) p⟩
          · cases e
        · cases e
      · cases e
    · cases e
  | split =>
    simp only [bmD] at e
    split at e
    · rename_i z y
      obtain ⟨w, rfl, q1⟩ := one_of q
      cases rv
      cases q1
      split at e
      · rename_i hl
        cases e
        refine ⟨z, y, rfl, rfl, hl.1, ?_, s_newlist S (repStrs _) p⟩
        have := hl.2
        unfold lim at this
        rw [sizeLine_eq]
        omega
      · cases e
    · cases e
  | partition =>
    simp only [bmD] at e
    split at e
    · rename_i z y
      obtain ⟨w, rfl, q1⟩ := one_of q
      cases rv
      cases q1
      split at e
      · rename_i hl
        cases e
        exact ⟨z, y, rfl, rfl, hl.1, lim_le hl.2, s_newtup S (.cons (.str _) (.cons (.str _) (.cons (.str _) .nil))) p⟩
      · cases e
    · cases e
  | index =>
    simp only [bmD] at e
    split at e
    · rename_i y
      obtain ⟨w, rfl, q1⟩ := one_of q
      split at e
      · rename_i xs hx
        split at e
        · rename_i hf
          split at e
          · rename_i j hj
            cases e
            obtain ⟨pp, us, e1, e2, e3⟩ := lstOf_of S rv hx
            subst e1
            have key : ∀ (xs : List D) (us : List V) (j : Nat), RepL K r h.next H us xs → xs.all flatD = true → whereL y xs = some j →
                ∃ z, us[j]? = some z ∧ eqV z w = true ∧ ∀ (m : Nat) (z' : V), m < j → us[m]? = some z' → eqV z' w = false := by
              intro xs
              induction xs with
              | nil => intro us j _ _ e; cases e
              | cons x xs ih =>
                intro us j q f e
                cases q with
                | cons a b =>
                  rw [List.all_cons, Bool.and_eq_true_iff] at f
                  unfold whereL at e
                  by_cases hx : eqF x y = true
                  · rw [if_pos hx] at e
                    cases e
                    exact ⟨_, rfl, by rw [eqF_of a q1 f.1 hf.1]; exact hx, fun m _ hm => absurd hm (Nat.not_lt_zero _)⟩
                  · rw [if_neg hx] at e
                    obtain ⟨i, e1, e2⟩ := Option.map_eq_some_iff.mp e
                    subst e2
                    obtain ⟨z, k1, k2, k3⟩ := ih _ i b f.2 e1
                    refine ⟨z, k1, k2, fun m z' hm hz => ?_⟩
                    cases m with
                    | zero =>
                      cases hz
                      rw [eqF_of a q1 f.1 hf.1]
                      exact Bool.eq_false_iff.mpr hx
                    | succ m => exact k3 m z' (by omega) hz
            obtain ⟨z, k1, k2, k3⟩ := key xs us j e3 hf.2 hj
            exact ⟨pp, us, w, j, z, rfl, rfl, e2, flat_of q1 hf.1, flatL_of e3 hf.2, k1, k2, k3, s_plain S (.int _) p⟩
          · cases e
        · cases e
      · cases e
    · cases e
  | insert =>
    simp only [bmD] at e
    split at e
    · rename_i a i d
      obtain ⟨w0, w, rfl, q0, q1⟩ := two_of q
      split at e
      · rename_i xs ha
        split at e
        · rename_i hl
          cases e
          obtain ⟨us, h1, q2⟩ := (S.obj a _ ha).2
          cases rv
          cases q0
          refine ⟨_, us, i, w, rfl, rfl, h1, by rw [q2.len]; exact lim_lt hl.1, hl.2.1, by omega, ?_⟩
          exact s_put S ha rfl .non p rfl fun H' x h2 => ⟨_, h2, (((q2.ext x).take _).append1 (q1.ext x)).app ((q2.ext x).drop _)⟩
        · cases e
      · cases e
    · cases e
  | clear =>
    simp only [bmD] at e
    split at e
    · rename_i a
      split at e
      · rename_i xs ha
        cases e
        obtain ⟨us, h1, q2⟩ := (S.obj a _ ha).2
        cases rv
        cases q
        exact ⟨_, us, rfl, rfl, h1, s_put S ha rfl .non p rfl fun H' x h2 => ⟨_, h2, .nil⟩⟩
      · cases e
    · cases e
  | find =>
    simp only [bmD] at e
    split at e
    · obtain ⟨w, rfl, q1⟩ := one_of q
      cases rv
      cases q1
      cases e
      exact ⟨_, _, rfl, rfl, s_plain S (.int _) p⟩
    · cases e
  | isdigit =>
    simp only [bmD] at e
    split at e
    · cases q
      cases rv
      cases e
      exact ⟨_, rfl, rfl, trivial, s_plain S (.bl _) p⟩
    · cases e
end
end Z

set_option maxRecDepth 100000
set_option maxHeartbeats 1000000
namespace Z
open PySem L2

theorem ofString_inj {a b : String} (h : Str.ofString a = Str.ofString b) : a = b := by
  rw [Str.ofString_eq_toList, Str.ofString_eq_toList] at h
  have h1 : a.toList.map Char.toNat = b.toList.map Char.toNat := by
    have := congrArg (fun s : Str => s.cps.toList) h
    simpa using this
  have h2 : a.toList = b.toList := (List.map_inj_right (f := Char.toNat) fun x y e => Char.toNat_inj.mp e).mp h1
  rw [← String.ofList_toList (s := a), h2, String.ofList_toList]
section
variable {K : PySem.W.Frag} {r : Rho} {n : Nat} {H : Hp}
theorem repF_get {f : String} {d : D} : ∀ {fs : List (String × D)} {ws : List (Str × V)}, RepF K r n H ws fs → fs.lookup f = some d → ∃ v, ws.lookup (Str.ofString f) = some v ∧ RepV K r n H v d
  | [], [], _, e => by cases e
  | [], w :: ws, q, _ => nomatch q.1
  | p :: fs, [], q, _ => nomatch q.1
  | (g, d0) :: fs, (gw, v0) :: ws, q, e => by
    obtain ⟨q1, q2⟩ := q
    simp only [List.map_cons, List.cons.injEq] at q1
    simp only [List.map_cons] at q2
    cases q2 with
    | cons a b =>
      rw [q1.1]
      by_cases hg : f = g
      · subst hg
        simp only [List.lookup_cons, beq_self_eq_true] at e ⊢
        cases e
        exact ⟨_, rfl, a⟩
      · have h1 : (f == g) = false := beq_eq_false_iff_ne.mpr hg
        have h2 : (Str.ofString f == Str.ofString g) = false := beq_eq_false_iff_ne.mpr fun z => hg (ofString_inj z)
        simp only [List.lookup_cons, h1, h2] at e ⊢
        exact repF_get ⟨q1.2, b⟩ e
theorem repF_none {f : String} : ∀ {fs : List (String × D)} {ws : List (Str × V)}, RepF K r n H ws fs → fs.lookup f = none → ws.lookup (Str.ofString f) = none
  | [], [], _, e => rfl
  | [], w :: ws, q, _ => nomatch q.1
  | p :: fs, [], q, _ => nomatch q.1
  | (g, d0) :: fs, (gw, v0) :: ws, q, e => by
    obtain ⟨q1, q2⟩ := q
    simp only [List.map_cons, List.cons.injEq] at q1
    simp only [List.map_cons] at q2
    cases q2 with
    | cons a b =>
      rw [q1.1]
      by_cases hg : f = g
      · subst hg
        simp only [List.lookup_cons, beq_self_eq_true] at e
        cases e
      · have h1 : (f == g) = false := beq_eq_false_iff_ne.mpr hg
        have h2 : (Str.ofString f == Str.ofString g) = false := beq_eq_false_iff_ne.mpr fun z => hg (ofString_inj z)
        simp only [List.lookup_cons, h1, h2] at e ⊢
        exact repF_none ⟨q1.2, b⟩ e
theorem repF_put {f : String} {d : D} {v : V} (a : RepV K r n H v d) : ∀ {fs : List (String × D)} {ws : List (Str × V)}, RepF K r n H ws fs → RepF K r n H (putF (Str.ofString f) v ws) (setF fs f d)
  | [], [], _ => ⟨rfl, .cons a .nil⟩
  | [], w :: ws, q => nomatch q.1
  | p :: fs, [], q => nomatch q.1
  | (g, d0) :: fs, (gw, v0) :: ws, q => by
    obtain ⟨q1, q2⟩ := q
    simp only [List.map_cons, List.cons.injEq] at q1
    simp only [List.map_cons] at q2
    cases q2 with
    | cons b c =>
      obtain ⟨rfl, q1⟩ := q1
      unfold putF setF
      by_cases hg : g = f
      · subst hg
        rw [if_pos rfl, if_pos rfl]
        exact ⟨by simp only [List.map_cons, q1], .cons a c⟩
      · rw [if_neg hg, if_neg fun z => hg (ofString_inj z)]
        have ih := repF_put (f := f) a (fs := fs) (ws := ws) ⟨q1, c⟩
        exact ⟨by simp only [List.map_cons, ih.1], .cons b ih.2⟩
theorem repF_len {fs : List (String × D)} {ws : List (Str × V)} (q : RepF K r n H ws fs) : ws.length = fs.length := by simpa using congrArg List.length q.1
end

def gsR : List Nat → TGs
  | [] => gNil
  | i :: is => gCons (gName i) (gsR is)
def rdG (K : PySem.W.Frag) : Tg → TG
  | .name i => gName i
  | .tup is => gTup K is.length (gsR is)
def Tg.is (g : Tg) : List Nat := match g with
  | .name i => [i]
  | .tup is => is
def Apart (is : List Nat) (σ σ' : L2.St) : Prop := ∀ vs, (∀ i ∈ is, i ∈ vs) → wipe σ' vs = wipe σ vs
theorem wipe_comm_set (σ : L2.St) (x : Option V) (j : Nat) : ∀ vs : List Nat, j ∉ vs → wipe (σ.set j x) vs = (wipe σ vs).set j x
  | [], _ => rfl
  | v :: vs, h => by
    show (wipe (σ.set j x) vs).set v none = ((wipe σ vs).set v none).set j x
    rw [wipe_comm_set σ x j vs fun z => h (List.mem_cons_of_mem _ z), List.set_comm _ _ fun e => h (by rw [e]; exact List.mem_cons_self)]
theorem wipe_set {σ : L2.St} {j : Nat} {x : Option V} : ∀ {vs : List Nat}, j ∈ vs → wipe (σ.set j x) vs = wipe σ vs
  | v :: vs, h => by
    show (wipe (σ.set j x) vs).set v none = (wipe σ vs).set v none
    by_cases hj : j ∈ vs
    · rw [wipe_set hj]
    · have : j = v := by
        rcases List.mem_cons.mp h with e | e
        · exact e
        · exact absurd e hj
      subst this
      rw [wipe_comm_set σ x j vs hj, List.set_set]
theorem wipe_none {σ : L2.St} {j : Nat} : ∀ {vs : List Nat}, j ∈ vs → (wipe σ vs).set j none = wipe σ vs
  | v :: vs, h => by
    show ((wipe σ vs).set v none).set j none = (wipe σ vs).set v none
    by_cases hj : j = v
    · subst hj; rw [List.set_set]
    · rcases List.mem_cons.mp h with e | e
      · exact absurd e hj
      · rw [List.set_comm _ _ (Ne.symm hj), wipe_none e]
theorem wipe_sub {σ : L2.St} : ∀ {us vs : List Nat}, (∀ i ∈ us, i ∈ vs) → wipe (wipe σ vs) us = wipe σ vs
  | [], _, _ => rfl
  | u :: us, vs, h => by
    show (wipe (wipe σ vs) us).set u none = wipe σ vs
    rw [wipe_sub fun i hi => h i (List.mem_cons_of_mem _ hi), wipe_none (h u List.mem_cons_self)]
theorem wipe_wipe {σ : L2.St} {vs : List Nat} : wipe (wipe σ vs) vs = wipe σ vs := wipe_sub fun _ h => h

section
variable {K : PySem.W.Frag} {r : Rho} {n : Nat} {H : Hp} {σ : L2.St} {env env1 : Env}
theorem s_gs : ∀ {is : List Nat} {vs : List V} {ds : List D} {σ : L2.St} {env : Env} {Q : L2.St → Hp → Prop}, RepL K r n H vs ds → EnvR K r n H σ env → setN env is ds = some env1 →
    (∀ σ1, EnvR K r n H σ1 env1 → Apart is σ σ1 → Q σ1 H) → gsR is vs σ H Q
  | [], _, _, σ, env, Q, .nil, e, h, k => by cases h; exact ⟨rfl, k σ e fun _ _ => rfl⟩
  | [], _, _, σ, env, Q, .cons a b, e, h, k => by cases h
  | i :: is, _, _, σ, env, Q, .nil, e, h, k => by cases h
  | i :: is, _, _, σ, env, Q, .cons (v := v) (vs := vs) a b, e, h, k => by
    refine ⟨v, vs, rfl, ?_⟩
    refine s_gs b (e.set i a) h fun σ1 e1 ap => k σ1 e1 fun ws hw => ?_
    rw [ap ws fun j hj => hw j (List.mem_cons_of_mem _ hj), wipe_set (hw i List.mem_cons_self)]
theorem gsR_len : ∀ (is : List Nat) (ds : List D) (env : Env), setN env is ds = some env1 → ds.length = is.length
  | [], [], _, _ => rfl
  | [], _ :: _, _, h => by cases h
  | _ :: _, [], _, h => by cases h
  | i :: is, d :: ds, _, h => congrArg Nat.succ (gsR_len is ds _ h)
theorem s_g {g : Tg} {v : V} {d : D} {Q : L2.St → Hp → Prop} (a : RepV K r n H v d) (e : EnvR K r n H σ env) (h : asgT g d env = some env1)
    (k : ∀ σ1, EnvR K r n H σ1 env1 → Apart g.is σ σ1 → Q σ1 H) : rdG K g v σ H Q := by
  cases g with
  | name i =>
    cases h
    exact k _ (e.set i a) fun vs hv => wipe_set (hv i List.mem_cons_self)
  | tup is =>
    cases a with
    | @tup p vs ds hT q =>
      have hl := gsR_len is ds env h
      exact ⟨p, vs, rfl, hT, by rw [q.len]; exact hl, s_gs q e h k⟩
    | _ => cases h
end

theorem kitAll (a b : String) (ha : a ∈ ["NoneType", "bool", "int", "str", "tuple", "list", "dict"]) (hb : b ∈ ["int", "bool", "str", "tuple", "list", "dict"]) : kitB a b = some (a == b || (a == "bool" && b == "int")) := by
  have h : (["NoneType", "bool", "int", "str", "tuple", "list", "dict"].all fun a => ["int", "bool", "str", "tuple", "list", "dict"].all fun b => decide (kitB a b = some (a == b || (a == "bool" && b == "int")))) = true := by decide +kernel
  exact of_decide_eq_true (List.all_eq_true.mp (List.all_eq_true.mp h a ha) b hb)
theorem nm_mem (t : Tn) : t.nm ∈ ["int", "bool", "str", "tuple", "list", "dict"] := by cases t <;> decide
theorem ty_of {K : PySem.W.Frag} {r : Rho} {h : Hm} {H : Hp} {v : V} {x : D} {a : String} (S : Sim K r h H) (rv : RepV K r h.next H v x) (e : tyN x h = some a) : TyX K H v (.type a) ∧ a ∈ ["NoneType", "bool", "int", "str", "tuple", "list", "dict"] := by
  cases rv with
  | non => cases e; exact ⟨.base .non, by decide⟩
  | exc k a => cases e
  | xob k h z f => cases e
  | bl b => cases e; exact ⟨.base (.bl b), by decide⟩
  | int b => cases e; exact ⟨.base (.int b), by decide⟩
  | str b => cases e; exact ⟨.base (.str b), by decide⟩
  | tup hT q =>
    cases e
    refine ⟨?_, by decide⟩
    rcases hT with (hT | ⟨o, hT⟩) | ⟨o, its, n, h1, h2, _⟩
    · exact .base (.tup hT)
    · exact .fTuple hT
    · exact .kTuple h1 h2
  | @ref p lp =>
    simp only [tyN] at e
    split at e
    · rename_i xs hp
      cases e
      obtain ⟨vs, h1, _⟩ := (S.obj p _ hp).2
      exact ⟨.base (.lst h1), by decide⟩
    · rename_i xs hp
      cases e
      obtain ⟨vs, h1, _⟩ := (S.obj p _ hp).2
      refine ⟨?_, by decide⟩
      rcases h1 with ⟨o, h1⟩ | ⟨o, its, n, h1, h2, _⟩
      · exact .base (.frz h1)
      · exact .kList h1 h2
    · rename_i xs hp
      cases e
      obtain ⟨vs, h1, _⟩ := (S.obj p _ hp).2
      exact ⟨.base (.dK h1), by decide⟩
    · cases e

def rIt (K : PySem.W.Frag) : ItK → List V → Hp → (It → Hp → Prop) → Prop
  | .seq => fun vs H R => ∃ x, vs = [x] ∧ ((∃ a, x = .ref a ∧ (∃ xs, SqL K H a xs) ∧ R (Itl K a) H) ∨ (∃ a, x = .ref a ∧ (∃ xs, SqT K H a xs) ∧ R (Itt K a) H) ∨ ∃ z, x = .str z ∧ R (Its z) H)
  | .range1 => fun vs H R => ∃ j : Int, vs = [.int j] ∧ -(2 ^ 62) ≤ j ∧ j < 2 ^ 62 ∧ R (Itr 0 j.toNat) H
  | .range2 => fun vs H R => ∃ i j : Int, vs = [.int i, .int j] ∧ (-(2 ^ 62) ≤ i ∧ i < 2 ^ 62 ∧ -(2 ^ 62) ≤ j ∧ j < 2 ^ 62) ∧ R (Itr i (j - i).toNat) H
  | .range3 => fun vs H R => ∃ (i j c : Int) (n : Nat), vs = [.int i, .int j, .int c] ∧ RgC i j c n ∧ R (Itc i c n) H
  | .rev => fun vs H R => match vs with
    | [v] => ∃ (a : Addr) (xs : List V), v = .ref a ∧ ((SqL K H a xs ∧ R (Itv K a xs.length) H) ∨ (SqT K H a xs ∧ R (RT.ItvT K a xs.length) H))
    | _ => False
  | .keys => fun vs H R => match vs with
    | [v] => ∃ (d : Addr) (o : Obj), v = .ref d ∧ ((∃ kvs, H d = some (.frz o (.dK kvs)) ∧ R (Itk d o kvs) H) ∨ ∃ kvs, H d = some (.frz o (.dT kvs)) ∧ R (Itkt d o kvs) H)
    | _ => False
  | .vals => fun vs H R => match vs with
    | [v] => ∃ (d : Addr) (o : Obj) (kvs : List (Key × V)), v = .ref d ∧ H d = some (.frz o (.dK kvs)) ∧ R (Itd d o kvs) H
    | _ => False
  | .items => fun vs H R => match vs with
    | [v] => ∃ (d : Addr) (o : Obj) (kvs : List (Key × V)), v = .ref d ∧ H d = some (.frz o (.dK kvs)) ∧ R (Iti d o kvs) H
    | _ => False
  | .enum => fun vs H R => ∃ a xs, vs = [.ref a] ∧ SqL K H a xs ∧ R (Ite K a) H
  | .zip => fun vs H R => ∃ a b xs ys, vs = [.ref a, .ref b] ∧ SqL K H a xs ∧ SqL K H b ys ∧ R (Itz K a b) H
def rdI (K : PySem.W.Frag) (k : ItK) (ta : TA) : TI := fun σ H R => ta σ H fun vs H1 => rIt K k vs H1 R
theorem pi_at {X : Cx} {tg : Expr} {pins : List (Addr × Obj)} {σ : L2.St} {H : Hp} {s : Shared} {R : It → Hp → Prop} {v : Value} {x : V} (I : Inv X pins σ H s) (rv : RelV x v)
    (q : (∃ a, x = .ref a ∧ (∃ xs, SqL X.K H a xs) ∧ R (Itl X.K a) H) ∨ (∃ a, x = .ref a ∧ (∃ xs, SqT X.K H a xs) ∧ R (Itt X.K a) H) ∨ ∃ z, x = .str z ∧ R (Its z) H) :
    wpAny (model X.prog X.w) X.A (pyIter v) (PIE X pins σ tg R) X.xe s := by
  rcases q with ⟨a, rfl, ⟨xs, hq⟩, q⟩ | ⟨a, rfl, ⟨xs, hq⟩, q⟩ | ⟨z, rfl, q⟩
  · cases rv
    obtain ⟨its, _, pl, _⟩ := I.list hq
    refine wpAny_pyIter_list pl.isList ⟨s.heap.objs.size, [s.heap.objs.size], _, _, H, rfl, I.kept (t' := s.toks) (fun b o e => Heap.get?_push_of_some _ e), turn_list a _, ⟨_, Heap.get?_push_size _ rfl, rfl, rfl⟩, fun b hb => ?_, q⟩
    cases List.mem_singleton.mp hb
    exact I.fpOk (Nat.le_refl _) (I.hok.fresh (Nat.le_refl _))
  · cases rv
    obtain ⟨its, _, pl, _⟩ := I.tuple hq
    refine wpAny_pyIter_tuple (items := its.toArray) pl ⟨s.heap.objs.size, [s.heap.objs.size], _, _, H, rfl, I.kept (t' := s.toks) (fun b o e => Heap.get?_push_of_some _ e), turn_tuple a _, ⟨_, Heap.get?_push_size _ rfl, rfl, rfl⟩, fun b hb => ?_, q⟩
    cases List.mem_singleton.mp hb
    exact I.fpOk (Nat.le_refl _) (I.hok.fresh (Nat.le_refl _))
  · obtain ⟨t, rfl⟩ := rv
    cases hw : z.cps.all (· < 128)
    · exact wpAny_pyIter_wide hw (pi_one (tk := s.toks) I _ (turn_str _ z t "str_iterator" (.inr rfl)) ⟨_, Heap.get?_push_size _ rfl, rfl, rfl⟩ q)
    · exact wpAny_pyIter_ascii hw (pi_one (tk := s.toks) I _ (turn_str _ z t "str_ascii_iterator" (.inl rfl)) ⟨_, Heap.get?_push_size _ rfl, rfl, rfl⟩ q)
theorem zi_seq {X : Cx} {tg e : Expr} {te : TE} (he : PE X e te) : PI X tg e (rdI X.K .seq (tCons te tNil)) := by
  refine ⟨fun pins s σ H R I h => thn (he.run pins s σ H _ I h) fun v s1 ⟨x, H1, I1, r1, q1⟩ => ?_⟩
  obtain ⟨y, e1, q⟩ := q1
  cases e1
  exact pi_at I1 r1 q
theorem zi_range1 {X : Cx} {tg a : Expr} {ta : TA} {p pos : Pos} (hg : Gl X "range") (hm : X.mg "range" = none) (ha : PA X [a] ta) (hs : starEach [a] X.env = [(false, eval a X.env)] := by rfl) : PI X tg (.Call (.Name "range" p) [a] [] pos) (rdI X.K .range1 ta) := pi_range1 hg hm ha hs
theorem small_c {a b c : Int} (hc : c = 2 ∨ c = 7) (ha : -(2 ^ 62) ≤ a) (ha' : a < 2 ^ 62) (hb : -(2 ^ 62) ≤ b) (hb' : b < 2 ^ 62) : Builtin.Range.small a b c = true := by
  unfold Builtin.Range.small Builtin.Range.rangeSize
  rcases hc with rfl | rfl
  · simp only [Builtin.Range.rangeFitsLong, Bool.and_eq_true, Bool.or_eq_true, decide_eq_true_eq, beq_iff_eq, show (2 : Int) > 0 by decide, if_true]
    split <;> omega
  · simp only [Builtin.Range.rangeFitsLong, Bool.and_eq_true, Bool.or_eq_true, decide_eq_true_eq, beq_iff_eq, show (7 : Int) > 0 by decide, if_true]
    split <;> omega
theorem rgc {a b c : Int} (hc : c = 2 ∨ c = 7) (ha : -(2 ^ 62) ≤ a) (ha' : a < 2 ^ 62) (hb : -(2 ^ 62) ≤ b) (hb' : b < 2 ^ 62) : RgC a b c (if a < b then (b - a - 1) / c + 1 else 0).toNat := by
  refine ⟨by omega, by omega, small_c hc ha ha' hb hb', ?_⟩
  unfold Builtin.Range.rangeSize
  rcases hc with rfl | rfl
  · rw [if_pos (by decide)]; split <;> omega
  · rw [if_pos (by decide)]; split <;> omega
theorem three_of {K : PySem.W.Frag} {r : Rho} {n : Nat} {H : Hp} {vs : List V} {a b c : D} (q : RepL K r n H vs [a, b, c]) : ∃ x y z, vs = [x, y, z] ∧ RepV K r n H x a ∧ RepV K r n H y b ∧ RepV K r n H z c := by
  cases q with
  | cons a q =>
    cases q with
    | cons b q =>
      cases q with
      | cons c q =>
        cases q
        exact ⟨_, _, _, rfl, a, b, c⟩
def Gives (K : PySem.W.Frag) (J : It) (items : List D) (gd : List (Nat × O)) (r1 : Rho) (n1 : Nat) (H1 : Hp) : Prop :=
  ∀ r h H, Sim K r h H → Ext K r1 n1 H1 r h.next H → stays gd h → ∀ i, (∀ d, items[i]? = some d → J.go i H ∧ ∀ x H', J.yld i H x H' → Sim K r h H' ∧ Ext K r h.next H r h.next H' ∧ RepV K r h.next H' x d) ∧ (items.length ≤ i → J.stop i H)
theorem gives_lst {K : PySem.W.Frag} {r1 : Rho} {h1 : Hm} {H1 : Hp} {a : Nat} {xs : List D} {o : O} (la : a < h1.next) (ho : o = .lst xs ∨ o = .fz xs) : Gives K (Itl K (r1 a)) xs [(a, o)] r1 h1.next H1 := by
  intro r h H S x st i
  have ha : h.get a = some o := st (a, o) (List.mem_singleton.mpr rfl)
  have er : r a = r1 a := x.at_ a la
  obtain ⟨vs, hs, q⟩ : ∃ vs, SqL K H (r1 a) vs ∧ RepL K r h.next H vs xs := by
    rcases ho with rfl | rfl
    · obtain ⟨vs, e1, q⟩ := (S.obj a _ ha).2
      rw [er] at e1
      exact ⟨vs, .inl (.inl e1), q⟩
    · obtain ⟨vs, e1, q⟩ := (S.obj a _ ha).2
      rw [er] at e1
      exact ⟨vs, e1.l, q⟩
  refine ⟨fun d hd => ?_, fun hl => ⟨vs, hs, by rw [q.len]; exact hl⟩⟩
  obtain ⟨v, ev, qv⟩ := q.get hd
  refine ⟨⟨vs, v, hs, ev⟩, fun y H' w => ?_⟩
  obtain ⟨rfl, w⟩ := w
  have := w vs hs
  rw [ev] at this
  cases this
  exact ⟨S, Ext.refl, qv⟩
theorem gives_tup {K : PySem.W.Frag} {r1 : Rho} {n1 : Nat} {H1 : Hp} {a : Addr} {xs : List D} {vs : List V} (hT : SqT K H1 a vs) (q1 : RepL K r1 n1 H1 vs xs) : Gives K (Itt K a) xs [] r1 n1 H1 := by
  intro r h H S x _ i
  have hs := x.tup _ _ hT
  have q := q1.ext x
  refine ⟨fun d hd => ?_, fun hl => ⟨vs, hs, by rw [q.len]; exact hl⟩⟩
  obtain ⟨v, ev, qv⟩ := q.get hd
  refine ⟨⟨vs, v, hs, ev⟩, fun y H' w => ?_⟩
  obtain ⟨rfl, w⟩ := w
  have := w vs hs
  rw [ev] at this
  cases this
  exact ⟨S, Ext.refl, qv⟩
theorem gives_rng {K : PySem.W.Frag} {r1 : Rho} {n1 : Nat} {H1 : Hp} {lo : Int} {m : Nat} {f : Nat → D} (hf : ∀ i : Nat, f i = .int (lo + i)) : Gives K (Itr lo m) ((List.range m).map f) [] r1 n1 H1 := by
  intro r h H S x _ i
  refine ⟨fun d hd => ?_, fun hl => (show m ≤ i by simpa using hl)⟩
  have hi : i < m := by simpa using (List.getElem?_eq_some_iff.mp hd).1
  rw [List.getElem?_map, List.getElem?_range hi] at hd
  cases hd
  refine ⟨hi, fun y H' w => ?_⟩
  obtain ⟨rfl, rfl⟩ := w
  rw [hf]
  exact ⟨S, Ext.refl, .int _⟩
theorem gives_rngC {K : PySem.W.Frag} {r1 : Rho} {n1 : Nat} {H1 : Hp} {lo c : Int} {m : Nat} : Gives K (Itc lo c m) ((List.range m).map fun (i : Nat) => .int (lo + (i : Int) * c)) [] r1 n1 H1 := by
  intro r h H S x _ i
  refine ⟨fun d hd => ?_, fun hl => (show m ≤ i by simpa using hl)⟩
  have hi : i < m := by simpa using (List.getElem?_eq_some_iff.mp hd).1
  rw [List.getElem?_map, List.getElem?_range hi] at hd
  cases hd
  refine ⟨hi, fun y H' w => ?_⟩
  obtain ⟨rfl, rfl⟩ := w
  exact ⟨S, Ext.refl, .int _⟩
theorem rev_at {α : Type} {xs : List α} {i : Nat} (hi : i < xs.length) : xs.reverse[i]? = xs[xs.length - 1 - i]? := List.getElem?_reverse hi
theorem gives_rev {K : PySem.W.Frag} {r1 : Rho} {h1 : Hm} {H1 : Hp} {a : Nat} {xs : List D} {o : O} {n : Nat} (la : a < h1.next) (ho : o = .lst xs ∨ o = .fz xs) (hn : n = xs.length) : Gives K (Itv K (r1 a) n) xs.reverse [(a, o)] r1 h1.next H1 := by
  intro r h H S x st i
  have ha : h.get a = some o := st (a, o) (List.mem_singleton.mpr rfl)
  have er : r a = r1 a := x.at_ a la
  obtain ⟨vs, hs, q⟩ : ∃ vs, SqL K H (r1 a) vs ∧ RepL K r h.next H vs xs := by
    rcases ho with rfl | rfl
    · obtain ⟨vs, e1, q⟩ := (S.obj a _ ha).2
      rw [er] at e1
      exact ⟨vs, .inl (.inl e1), q⟩
    · obtain ⟨vs, e1, q⟩ := (S.obj a _ ha).2
      rw [er] at e1
      exact ⟨vs, e1.l, q⟩
  refine ⟨fun d hd => ?_, fun hl => (show n ≤ i by rw [hn]; simpa using hl)⟩
  have hi : i < xs.length := by simpa using (List.getElem?_eq_some_iff.mp hd).1
  rw [rev_at hi] at hd
  obtain ⟨v, ev, qv⟩ := q.get hd
  refine ⟨⟨by omega, vs, v, hs, by rw [hn]; exact ev⟩, fun y H' w => ?_⟩
  obtain ⟨rfl, w⟩ := w
  have := w vs hs
  rw [hn, ev] at this
  cases this
  exact ⟨S, Ext.refl, qv⟩
theorem gives_revT {K : PySem.W.Frag} {r1 : Rho} {n1 : Nat} {H1 : Hp} {a : Addr} {xs : List D} {vs : List V} {n : Nat} (hT : SqT K H1 a vs) (q1 : RepL K r1 n1 H1 vs xs) (hn : n = xs.length) : Gives K (RT.ItvT K a n) xs.reverse [] r1 n1 H1 := by
  intro r h H S x _ i
  have hs := x.tup _ _ hT
  have q := q1.ext x
  refine ⟨fun d hd => ?_, fun hl => (show n ≤ i by rw [hn]; simpa using hl)⟩
  have hi : i < xs.length := by simpa using (List.getElem?_eq_some_iff.mp hd).1
  rw [rev_at hi] at hd
  obtain ⟨v, ev, qv⟩ := q.get hd
  refine ⟨⟨by omega, vs, v, hs, by rw [hn]; exact ev⟩, fun y H' w => ?_⟩
  obtain ⟨rfl, w⟩ := w
  have := w vs hs
  rw [hn, ev] at this
  cases this
  exact ⟨S, Ext.refl, qv⟩
theorem gives_str {K : PySem.W.Frag} {r1 : Rho} {n1 : Nat} {H1 : Hp} {z : Str} : Gives K (Its z) (z.cps.toList.map fun c => .str ⟨#[c]⟩) [] r1 n1 H1 := by
  intro r h H S x _ i
  refine ⟨fun d hd => ?_, fun hl => (show z.cps.size ≤ i by simpa using hl)⟩
  rw [List.getElem?_map] at hd
  obtain ⟨c, hc, e⟩ := Option.map_eq_some_iff.mp hd
  subst e
  have hc2 : z.cps[i]? = some c := by rw [← Array.getElem?_toList]; exact hc
  refine ⟨(Array.getElem?_eq_some_iff.mp hc2).1, fun y H' w => ?_⟩
  obtain ⟨rfl, c', e, rfl⟩ := w
  rw [hc2] at e
  cases e
  exact ⟨S, Ext.refl, .str _⟩
theorem gives_keys {K : PySem.W.Frag} {r1 : Rho} {n1 : Nat} {H1 : Hp} {d : Addr} {ob : Obj} {ws : List (Key × V)} {kvs : List (Key × D)} (hd : H1 d = some (.frz ob (.dK ws))) (q1 : RepK K r1 n1 H1 ws kvs) :
    Gives K (Itk d ob ws) (kvs.map fun kv => keyD kv.1) [] r1 n1 H1 := by
  intro r h H S x _ i
  have hd' := x.frz _ _ _ hd
  have q := RepK.ext x q1
  have el : ws.length = kvs.length := by simpa using congrArg List.length q.1
  refine ⟨fun y hy => ?_, fun hl => ⟨hd', by rw [el]; simpa using hl⟩⟩
  obtain ⟨v, ev, qv⟩ := (repKeys q).get hy
  rw [List.getElem?_map] at ev
  obtain ⟨kw, e1, e2⟩ := Option.map_eq_some_iff.mp ev
  refine ⟨⟨hd', (List.getElem?_eq_some_iff.mp e1).1⟩, fun z H' w => ?_⟩
  obtain ⟨rfl, k, v', e3, rfl⟩ := w
  rw [e1] at e3
  cases e3
  subst e2
  exact ⟨S, Ext.refl, qv⟩
theorem gives_keysT {K : PySem.W.Frag} {r1 : Rho} {n1 : Nat} {H1 : Hp} {d : Addr} {ob : Obj} {ws : List (List Key × V)} {kvs : List (List Key × D)} (hd : H1 d = some (.frz ob (.dT ws))) (q1 : RepK K r1 n1 H1 ws kvs) :
    Gives K (Itkt d ob ws) (kvs.map fun kv => .tup (kv.1.map keyD)) [] r1 n1 H1 := by
  intro r h H S x _ i
  have hd' := x.frz _ _ _ hd
  have el : ws.length = kvs.length := by simpa using congrArg List.length q1.1
  refine ⟨fun y hy => ?_, fun hl => ⟨hd', by rw [el]; simpa using hl⟩⟩
  rw [List.getElem?_map] at hy
  obtain ⟨kv, e1, e2⟩ := Option.map_eq_some_iff.mp hy
  have hi : i < kvs.length := (List.getElem?_eq_some_iff.mp e1).1
  have e5 : (ws.map (·.1))[i]? = some kv.1 := by rw [q1.1, List.getElem?_map, e1]; rfl
  refine ⟨⟨hd', by rw [el]; exact hi⟩, fun z H' w => ?_⟩
  obtain ⟨rfl, k, v', q, e3, rfl, e4⟩ := w
  rw [List.getElem?_map, e3] at e5
  cases e5
  subst e2
  exact ⟨S, Ext.refl, .tup (.inl (.inl e4)) (repKeyL _)⟩
theorem gives_vals {K : PySem.W.Frag} {r1 : Rho} {n1 : Nat} {H1 : Hp} {d : Addr} {ob : Obj} {ws : List (Key × V)} {kvs : List (Key × D)} (hd : H1 d = some (.frz ob (.dK ws))) (q1 : RepK K r1 n1 H1 ws kvs) :
    Gives K (Itd d ob ws) (kvs.map fun kv => kv.2) [] r1 n1 H1 := by
  intro r h H S x _ i
  have hd' := x.frz _ _ _ hd
  have q := RepK.ext x q1
  have el : ws.length = kvs.length := by simpa using congrArg List.length q.1
  refine ⟨fun y hy => ?_, fun hl => ⟨hd', by rw [el]; simpa using hl⟩⟩
  obtain ⟨v, ev, qv⟩ := q.2.get hy
  rw [List.getElem?_map] at ev
  obtain ⟨kw, e1, e2⟩ := Option.map_eq_some_iff.mp ev
  refine ⟨⟨hd', (List.getElem?_eq_some_iff.mp e1).1⟩, fun z H' w => ?_⟩
  obtain ⟨rfl, k, e3⟩ := w
  rw [e1] at e3
  cases e3
  subst e2
  exact ⟨S, Ext.refl, qv⟩
theorem gives_items {K : PySem.W.Frag} {r1 : Rho} {n1 : Nat} {H1 : Hp} {d : Addr} {ob : Obj} {ws : List (Key × V)} {kvs : List (Key × D)} (hd : H1 d = some (.frz ob (.dK ws))) (q1 : RepK K r1 n1 H1 ws kvs) :
    Gives K (Iti d ob ws) (kvs.map fun kv => .tup [keyD kv.1, kv.2]) [] r1 n1 H1 := by
  intro r h H S x _ i
  have hd' := x.frz _ _ _ hd
  have q := RepK.ext x q1
  have el : ws.length = kvs.length := by simpa using congrArg List.length q.1
  refine ⟨fun y hy => ?_, fun hl => ⟨hd', by rw [el]; simpa using hl⟩⟩
  rw [List.getElem?_map] at hy
  obtain ⟨kv, e1, e2⟩ := Option.map_eq_some_iff.mp hy
  have e6 : (kvs.map fun kv => kv.2)[i]? = some kv.2 := by rw [List.getElem?_map, e1]; rfl
  obtain ⟨v, ev, qv⟩ := q.2.get e6
  rw [List.getElem?_map] at ev
  obtain ⟨kw, e3, e4⟩ := Option.map_eq_some_iff.mp ev
  have e5 : (ws.map (·.1))[i]? = some kv.1 := by rw [q.1, List.getElem?_map, e1]; rfl
  rw [List.getElem?_map, e3] at e5
  refine ⟨⟨hd', (List.getElem?_eq_some_iff.mp e3).1⟩, fun z H' w => ?_⟩
  obtain ⟨T, k, v', e7, rfl, hT, rfl⟩ := w
  rw [e3] at e7
  cases e7
  cases e5
  subst e2 e4
  have xx := (Free.ext (K := K) (r := r) (n := h.next) (u := .tup [kV kv.1, v']) (.inl hT))
  exact ⟨S.grow hT, xx, .tup (.inl (.inl upd_same)) (.cons (repKey _) (.cons (qv.ext xx) .nil))⟩
theorem gives_zip {K : PySem.W.Frag} {r1 : Rho} {h1 : Hm} {H1 : Hp} {a b : Nat} {xs ys : List D} (la : a < h1.next) (lb : b < h1.next) :
    Gives K (Itz K (r1 a) (r1 b)) ((xs.zip ys).map fun p => D.tup [p.1, p.2]) [(a, .lst xs), (b, .lst ys)] r1 h1.next H1 := by
  intro r h H S x st i
  have ha : h.get a = some (.lst xs) := st (a, .lst xs) (by simp)
  have hb : h.get b = some (.lst ys) := st (b, .lst ys) (by simp)
  have era : r a = r1 a := x.at_ a la
  have erb : r b = r1 b := x.at_ b lb
  obtain ⟨vs, e1, q1⟩ := (S.obj a _ ha).2
  obtain ⟨ws, e2, q2⟩ := (S.obj b _ hb).2
  rw [era] at e1
  rw [erb] at e2
  have s1 : SqL K H (r1 a) vs := .inl (.inl e1)
  have s2 : SqL K H (r1 b) ws := .inl (.inl e2)
  refine ⟨fun d hd => ?_, fun hl => ⟨vs, ws, s1, s2, ?_⟩⟩
  · rw [List.getElem?_map] at hd
    obtain ⟨⟨dx, dy⟩, e3, e4⟩ := Option.map_eq_some_iff.mp hd
    rw [List.getElem?_zip_eq_some] at e3
    obtain ⟨vx, f1, g1⟩ := q1.get e3.1
    obtain ⟨vy, f2, g2⟩ := q2.get e3.2
    refine ⟨⟨vs, ws, vx, vy, s1, s2, f1, f2⟩, fun z H' w => ?_⟩
    obtain ⟨T, x', y', rfl, hT, rfl, w1, w2⟩ := w
    have i1 := w1 vs s1
    have i2 := w2 ws s2
    rw [f1] at i1
    rw [f2] at i2
    cases i1
    cases i2
    subst e4
    have xx := (Free.ext (K := K) (r := r) (n := h.next) (u := .tup [vx, vy]) (.inl hT))
    exact ⟨S.grow hT, xx, .tup (.inl (.inl upd_same)) (.cons (g1.ext xx) (.cons (g2.ext xx) .nil))⟩
  · have hl' : (xs.zip ys).length ≤ i := by simpa using hl
    rw [List.length_zip] at hl'
    rw [q1.len, q2.len]
    omega
theorem gives_enum {K : PySem.W.Frag} {r1 : Rho} {h1 : Hm} {H1 : Hp} {a : Nat} {xs : List D} (la : a < h1.next) :
    Gives K (Ite K (r1 a)) (xs.zipIdx.map fun p => D.tup [.int (p.2 : Nat), p.1]) [(a, .lst xs)] r1 h1.next H1 := by
  intro r h H S x st i
  have ha : h.get a = some (.lst xs) := st (a, .lst xs) (by simp)
  have er : r a = r1 a := x.at_ a la
  obtain ⟨vs, e1, q1⟩ := (S.obj a _ ha).2
  rw [er] at e1
  have s1 : SqL K H (r1 a) vs := .inl (.inl e1)
  refine ⟨fun d hd => ?_, fun hl => ⟨vs, s1, by rw [q1.len]; simpa using hl⟩⟩
  rw [List.getElem?_map, List.getElem?_zipIdx] at hd
  cases ex : xs[i]? with
  | none => rw [ex] at hd; cases hd
  | some y =>
    rw [ex] at hd
    obtain ⟨v, f1, g1⟩ := q1.get ex
    refine ⟨⟨vs, v, s1, f1⟩, fun z H' w => ?_⟩
    obtain ⟨T, x', rfl, hT, rfl, w1⟩ := w
    have i1 := w1 vs s1
    rw [f1] at i1
    cases i1
    simp only [Option.map_some, Option.some.injEq] at hd
    subst hd
    have xx := (Free.ext (K := K) (r := r) (n := h.next) (u := .tup [.int (i : Nat), v]) (.inl hT))
    exact ⟨S.grow hT, xx, .tup (.inl (.inl upd_same)) (.cons (by rw [Nat.zero_add]; exact .int _) (.cons (g1.ext xx) .nil))⟩
theorem s_walk {K : PySem.W.Frag} {r : Rho} {h : Hm} {H : Hp} {k : ItK} {vs : List V} {ds items : List D} {gd : List (Nat × O)} {R : It → Hp → Prop} (S : Sim K r h H) (q : RepL K r h.next H vs ds) (e : walk k ds h = some (items, gd))
    (p : ∀ J, Gives K J items gd r h.next H → R J H) : rIt K k vs H R := by
  cases k with
  | seq =>
    simp only [walk] at e
    split at e
    · obtain ⟨v, rfl, a⟩ := one_of q
      cases e
      cases a with
      | tup hT q1 => exact ⟨_, rfl, .inr (.inl ⟨_, rfl, ⟨_, hT⟩, p _ (gives_tup hT q1)⟩)⟩
    · obtain ⟨v, rfl, a⟩ := one_of q
      cases e
      cases a with
      | str z =>
        exact ⟨_, rfl, .inr (.inr ⟨_, rfl, p _ gives_str⟩)⟩
    · rename_i a0
      obtain ⟨v, rfl, a⟩ := one_of q
      cases a with
      | ref la =>
        split at e
        · rename_i xs ha
          cases e
          obtain ⟨us, h1, _⟩ := (S.obj a0 _ ha).2
          exact ⟨_, rfl, .inl ⟨_, rfl, ⟨us, .inl (.inl h1)⟩, p _ (gives_lst (h1 := h) la (.inl rfl))⟩⟩
        · rename_i xs ha
          cases e
          obtain ⟨us, h1, _⟩ := (S.obj a0 _ ha).2
          exact ⟨_, rfl, .inl ⟨_, rfl, ⟨us, h1.l⟩, p _ (gives_lst (h1 := h) la (.inr rfl))⟩⟩
        · cases e
    · cases e
  | range1 =>
    simp only [walk] at e
    split at e
    · obtain ⟨v, rfl, a⟩ := one_of q
      cases a
      split at e
      · rename_i hn
        cases e
        exact ⟨_, rfl, hn.1, hn.2, p _ (gives_rng fun i => by simp)⟩
      · cases e
    · cases e
  | range2 =>
    simp only [walk] at e
    split at e
    · obtain ⟨v, w, rfl, a, b⟩ := two_of q
      cases a
      cases b
      split at e
      · rename_i hn
        cases e
        exact ⟨_, _, rfl, ⟨hn.1.1, hn.1.2, hn.2.1, hn.2.2⟩, p _ (gives_rng fun i => rfl)⟩
      · cases e
    · cases e
  | range3 =>
    simp only [walk] at e
    split at e
    · obtain ⟨v, w, u, rfl, a, b, c⟩ := three_of q
      cases a
      cases b
      cases c
      split at e
      · rename_i hn
        cases e
        exact ⟨_, _, _, _, rfl, rgc hn.1 hn.2.1.1 hn.2.1.2 hn.2.2.1 hn.2.2.2, p _ gives_rngC⟩
      · cases e
    · cases e
  | rev =>
    simp only [walk] at e
    split at e
    · obtain ⟨v, rfl, a⟩ := one_of q
      cases e
      cases a with
      | tup hT q1 => exact ⟨_, _, rfl, .inr ⟨hT, p _ (gives_revT hT q1 q1.len)⟩⟩
    · rename_i a0
      obtain ⟨v, rfl, a⟩ := one_of q
      cases a with
      | ref la =>
        split at e
        · rename_i xs ha
          cases e
          obtain ⟨us, h1, q1⟩ := (S.obj a0 _ ha).2
          exact ⟨_, us, rfl, .inl ⟨.inl (.inl h1), p _ (gives_rev (h1 := h) la (.inl rfl) q1.len)⟩⟩
        · rename_i xs ha
          cases e
          obtain ⟨us, h1, q1⟩ := (S.obj a0 _ ha).2
          exact ⟨_, us, rfl, .inl ⟨h1.l, p _ (gives_rev (h1 := h) la (.inr rfl) q1.len)⟩⟩
        · cases e
    · cases e
  | keys =>
    simp only [walk] at e
    split at e
    · rename_i a0
      obtain ⟨v, rfl, a⟩ := one_of q
      cases a with
      | ref la =>
        split at e
        · rename_i kvs ha
          cases e
          obtain ⟨ob, ws, h1, q1⟩ := (S.obj a0 _ ha).2
          exact ⟨_, ob, rfl, .inl ⟨ws, h1, p _ (gives_keys h1 q1)⟩⟩
        · rename_i kvs ha
          cases e
          obtain ⟨ob, ws, h1, q1⟩ := (S.obj a0 _ ha).2
          exact ⟨_, ob, rfl, .inr ⟨ws, h1, p _ (gives_keysT h1 q1)⟩⟩
        · cases e
    · cases e
  | vals =>
    simp only [walk] at e
    split at e
    · rename_i a0
      obtain ⟨v, rfl, a⟩ := one_of q
      cases a with
      | ref la =>
        split at e
        · rename_i kvs ha
          cases e
          obtain ⟨ob, ws, h1, q1⟩ := (S.obj a0 _ ha).2
          exact ⟨_, ob, ws, rfl, h1, p _ (gives_vals h1 q1)⟩
        · cases e
    · cases e
  | items =>
    simp only [walk] at e
    split at e
    · rename_i a0
      obtain ⟨v, rfl, a⟩ := one_of q
      cases a with
      | ref la =>
        split at e
        · rename_i kvs ha
          cases e
          obtain ⟨ob, ws, h1, q1⟩ := (S.obj a0 _ ha).2
          exact ⟨_, ob, ws, rfl, h1, p _ (gives_items h1 q1)⟩
        · cases e
    · cases e
  | zip =>
    simp only [walk] at e
    split at e
    · rename_i a0 b0
      obtain ⟨v, w, rfl, a, b⟩ := two_of q
      cases a with
      | ref la =>
        cases b with
        | ref lb =>
          split at e
          · rename_i xs ys ha hb
            cases e
            obtain ⟨us, h1, _⟩ := (S.obj a0 _ ha).2
            obtain ⟨ws, h2, _⟩ := (S.obj b0 _ hb).2
            exact ⟨_, _, us, ws, rfl, .inl (.inl h1), .inl (.inl h2), p _ (gives_zip (h1 := h) la lb)⟩
          · cases e
    · cases e
  | enum =>
    simp only [walk] at e
    split at e
    · rename_i a0
      obtain ⟨v, rfl, a⟩ := one_of q
      cases a with
      | ref la =>
        split at e
        · rename_i xs ha
          cases e
          obtain ⟨us, h1, _⟩ := (S.obj a0 _ ha).2
          exact ⟨_, us, rfl, .inl (.inl h1), p _ (gives_enum (h1 := h) la)⟩
        · cases e
    · cases e
end Z

set_option maxRecDepth 100000
set_option maxHeartbeats 2000000
namespace Z
open PySem L2

def cV : Cst → V
  | .non => .non
  | .bl b => .bl b
  | .int i => .int i
  | .str s => .str (Str.ofString s)
structure RC where
  K : PySem.W.Frag
  P : Prog
  sp : String → Sp
  gv : String → V
  W : WX
  xa : Addr := 0
  xc : Value := .none
  xd : Option Addr := none
abbrev RC.with (c : RC) (W : WX) : RC := { c with W := W }
abbrev noW : WX := fun _ _ _ _ => False
abbrev RC.wt (c : RC) (σ : L2.St) : XK := fun cls d H => c.W cls d σ H
def rTix (K : PySem.W.Frag) : V → List V → Hp → VK → Prop := fun x xs H Q => ∃ p, ∃ ys : List Str, ∃ z j, x = .ref p ∧ xs = [.str z] ∧ SqT K H p (ys.map V.str) ∧ ys[j]? = some z ∧ (∀ m, m < j → ys[m]? ≠ some z) ∧ Q (.int (j : Nat)) H
def rIsi2 (K : PySem.W.Frag) (t u : Tn) (a : TE) : TE := tCB (rIsiT K) (tCons a (tCons (tTup (tCons (tC (.ty t.nm)) (tCons (tC (.ty u.nm)) tNil))) tNil))
def pairT : List TE → List (TE × TE)
  | a :: b :: r => (a, b) :: pairT r
  | _ => []
def pairL : List V → List (V × V)
  | a :: b :: r => (a, b) :: pairL r
  | _ => []
def tLcX (wi : TI) (g : TG) (tt : TT) (te : WX → TE) (W : WX) (vs : List Nat) : TE := fun σ H Q => tLc wi g tt (te fun cls d _ H' => W cls d σ H') vs σ H Q
mutual
def rdE (c : RC) : E → TE
  | .var i => tVar i
  | .con k => tC (cV k)
  | .glo x => tC (c.gv x)
  | .bin o a b => tOp (rB c.K o) (rdE c a) (rdE c b)
  | .neg a => tUn (rU fun i => .int (-i)) (rdE c a)
  | .cmp o a b => tOp (rCm c.K o) (rdE c a) (rdE c b)
  | .chn o o' a b d => tChain (rCm c.K o) (rCm c.K o') (rdE c a) (rdE c b) (rdE c d)
  | .and a b => tAndV (rdE c a) (rdE c b)
  | .or a b => tOrV (rdE c a) (rdE c b)
  | .not a => tNotV (rdE c a)
  | .ife t a b => tIf (rdT c t) (rdE c a) (rdE c b)
  | .idx a b => tOp (rIx c.K) (rdE c a) (rdE c b)
  | .dgt a b => tDGet (rdE c a) (rdE c b)
  | .slc a lo hi => tSl (rSlZ c.K) (rdE c a) (rdO c lo) (rdO c hi)
  | .att a f => tFld c.K (rdE c a) (Str.ofString f)
  | .tup es => tTup (rdA c es)
  | .lst es => tLst (rdA c es)
  | .dict es => (match es with
    | .nil => tDNewK
    | _ => tDisp (pairT (rdL c es)))
  | .call f es ds => fun σ H Q => rdA c es σ H fun vs H1 => c.sp f (vs ++ ds.map cV) H1 Q (c.wt σ)
  | .meth o m es ds => fun σ H Q => rdE c o σ H fun x H1 => ∃ a dx fs cn f, x = .ref a ∧ H1 a = some (.ins (ca c.K cn) dx fs) ∧ c.P.mt cn m = some f ∧ fs.lookup (Str.ofString m) = none ∧
      rdA c es σ H1 fun vs H2 => c.sp f (x :: (vs ++ ds.map cV)) H2 Q (c.wt σ)
  | .new cn es => fun σ H Q => rdA c es σ H fun vs H1 => ∀ x dx, H1 x = none → H1 dx = none → dx ≠ x → ∃ f, c.P.mt cn "__init__" = some f ∧
      c.sp f (.ref x :: vs) (upd (upd H1 dx (.own x)) x (.ins (ca c.K cn) dx [])) (fun v H2 => v = .non ∧ Q (.ref x) H2) (c.wt σ)
  | .bi b es => tCB (rBi c.K b) (rdA c es)
  | .bm b o es => tBmZ c.K b (rdE c o) (rdA c es)
  | .gix x e => fun σ H Q => tyV c.K "tuple" (c.gv x) H ∧ rdE c e σ H fun y H2 => rTix c.K (c.gv x) [y] H2 Q
  | .isi a t => tCB (rIsi c.K) (tCons (rdE c a) (tCons (tC (.ty t.nm)) tNil))
  | .isi2 a t u => rIsi2 c.K t u (rdE c a)
  | .comp elt own g k es tst => tLc (rdI c.K k (rdA c es)) (rdG c.K g) (rdT (c.with noW) tst) (rdE (c.with noW) elt) own
  | .cpx elt own g k es tst => tLcX (rdI c.K k (rdA c es)) (rdG c.K g) (rdT (c.with noW) tst) (fun W' => rdE (c.with W') elt) c.W own
  | .fst es => fun σ H Q => tJs (rdL c es) Str.empty σ H fun out H1 => Q (.str out) H1
  | .fmt a => tFmt (rdE c a)
  | .rsl a => tRevL c.K (rdE c a)
  | .dictT => tDNewT
  | .dgtT a es => tDGet (rdE c a) (tTup (rdA c es))
  | .getT a es d => tDGet2 (rdE c a) (tTup (rdA c es)) (tC (cV d))
  | .lck _ e => tLockE (rdE c e)
  | .isx i cn => fun σ H Q => ∃ D, c.xc = .ref D ∧ c.xd = none ∧ ExcC c.K D ∧ σ[i]? = some (some (.ref c.xa)) ∧ ∃ b, PySem.W.kitOne c.K (.ref D) (.ref (ca c.K cn)) = some b ∧ Q (.bl b) H
  | .isxB i cn => fun σ H Q => ∃ D, c.xc = .ref D ∧ c.xd = none ∧ ExcC c.K D ∧ σ[i]? = some (some (.ref c.xa)) ∧ ∃ b, PySem.W.kitOne c.K (.ref D) (.type cn) = some b ∧ Q (.bl b) H
  | .lrg a => tLstRg (tRg1 (rdE c a))
  | .iso a cn => tCB (Kept.rIsO c.K) (tCons (rdE c a) (tCons (tC (.ref (ca c.K cn))) tNil))
  | .isoB a cn => tCB (Kept.rIsO c.K) (tCons (rdE c a) (tCons (tC (.ty cn)) tNil))
  | .isc a cn => tCB (rIsi c.K) (tCons (rdE c a) (tCons (tC (.ref (ca c.K cn))) tNil))
  | .new0 cn => fun σ H Q => ∀ x dx, H x = none → H dx = none → dx ≠ x → Q (.ref x) (upd (upd H dx (.own x)) x (.ins (ca c.K cn) dx []))
def rdA (c : RC) : Es → TA
  | .nil => tNil
  | .cons e es => tCons (rdE c e) (rdA c es)
def rdL (c : RC) : Es → List TE
  | .nil => []
  | .cons e es => rdE c e :: rdL c es
def rdO (c : RC) : Eo → TO
  | .none => tNoPart
  | .some e => tPart (rdE c e)
def rdT (c : RC) : T → TT
  | .yes => fun _ H Q => Q true H
  | .cmp o a b => tTest (tOp (rCm c.K o) (rdE c a) (rdE c b))
  | .chn o o' a b d => tTest (tChain (rCm c.K o) (rCm c.K o') (rdE c a) (rdE c b) (rdE c d))
  | .and a b => tAnd (rdT c a) (rdT c b)
  | .or a b => tOr (rdT c a) (rdT c b)
  | .not a => tNot (rdT c a)
  | .tru a => fun σ H Q => rdE c a σ H fun x H' => ∃ k, TruV c.K x H' k ∧ Q k H'
end

structure IsC (K : PySem.W.Frag) (C C' : Addr) (b : Bool) : Prop where
  cl : Cls K C
  ha : PySem.W.findIn K (.ref C) "__class__" = some (some (.builtin "object.__class__"))
  hn : PySem.W.specialIn K (.builtin "object.__class__") "__get__" = some (some (.builtin "getset_descriptor.__get__"))
  htk : PySem.W.takesIn K (.builtin "object.__class__") = some true
  hm : PySem.W.mroIn K C (.type "object") = some true
  one : PySem.W.kitOne K (.ref C) (.ref C') = some b
structure RCok (c : RC) (cl : Cl) : Prop where
  sp : ∀ f ds h res h', cl f ds h = some (res, h') → ∀ r H vs Q E, Sim c.K r h H → RepL c.K r h.next H vs ds → PG c.K E r h H (RepV c.K) Q res h' → c.sp f vs H Q E
  gv : ∀ x d, c.P.glob x = some d → ∀ r n H, RepV c.K r n H (c.gv x) d
  gt : ∀ x xs, c.P.glob x = some (.tup xs) → ∀ H, tyV c.K "tuple" (c.gv x) H
  fld : ∀ cn f, c.P.fld cn f = true → Cls c.K (ca c.K cn) ∧ NoAttr c.K (ca c.K cn) (Str.ofString f)
  sub : ∀ cn cm b, c.P.sub cn cm = some b → IsC c.K (ca c.K cn) (ca c.K cm) b
  exm : ∀ k cm b, c.P.exm k cm = some b → PySem.W.exmOne c.K (.ref (ca c.K k)) (.ref (ca c.K cm)) = some b
  exs : ∀ k cm b, c.P.exs k cm = some b → ExcC c.K (ca c.K k) ∧ PySem.W.kitOne c.K (.ref (ca c.K k)) (.ref (ca c.K cm)) = some b
  exb : ∀ k cm b, c.P.exb k cm = some b → ExcC c.K (ca c.K k) ∧ PySem.W.kitOne c.K (.ref (ca c.K k)) (.type cm) = some b
  xk : ∀ k a, c.P.xk = some (k, a) → c.xa = a ∧ c.xc = .ref (ca c.K k) ∧ c.xd = none
theorem RCok.with {c : RC} {cl : Cl} (k : RCok c cl) (W : WX) : RCok (c.with W) cl := ⟨k.sp, k.gv, k.gt, k.fld, k.sub, k.exm, k.exs, k.exb, k.xk⟩
abbrev RC.exc (c : RC) (k : String) (a : Addr) (cls : Value) (d : Option Addr) : RC := { c with W := noW, P := { c.P with xk := some (k, a) }, xa := a, xc := cls, xd := d }
theorem RCok.exc {c : RC} {cl : Cl} (k : RCok c cl) (kk : String) (a : Addr) : RCok (c.exc kk a (.ref (ca c.K kk)) none) cl :=
  ⟨k.sp, k.gv, k.gt, k.fld, k.sub, k.exm, k.exs, k.exb, fun k' a' e => by
    have e' := Option.some.inj e
    injection e' with e1 e2
    subst e1 e2
    exact ⟨rfl, rfl, rfl⟩⟩

theorem bnd_cases {α β : Type} {m : Res α} {f : α → Hm → Res β} {res : Except String β} {h' : Hm} (e : bnd m f = some (res, h')) :
    (∃ x h1, m = some (.ok x, h1) ∧ f x h1 = some (res, h')) ∨ ∃ k, m = some (.error k, h') ∧ res = .error k := by
  match m, e with
  | some (.ok x, h1), e => exact .inl ⟨x, h1, rfl, e⟩
  | some (.error k, h1), e => cases e; exact .inr ⟨k, rfl, rfl⟩
theorem bndN_cases {α β : Type} {m : Res α} {f : α → Hm → Res β} {res : Except String β} {h' : Hm} (e : bndN m f = some (res, h')) : ∃ x h1, m = some (.ok x, h1) ∧ f x h1 = some (res, h') := by
  match m, e with
  | some (.ok x, h1), e => exact ⟨x, h1, rfl, e⟩
theorem liftO_cases {α : Type} {o : Option α} {h h' : Hm} {res : Except String α} (e : liftO o h = some (res, h')) : ∃ x, o = some x ∧ res = .ok x ∧ h' = h := by
  cases o with
  | none => cases e
  | some x => cases e; exact ⟨x, rfl, rfl, rfl⟩

def SE (cl : Cl) (e : E) : Prop := ∀ (c : RC), RCok c cl → ∀ env h res h', ev c.P cl e env h = some (res, h') → ∀ r σ H Q, Sim c.K r h H → EnvR c.K r h.next H σ env → PG c.K (c.wt σ) r h H (RepV c.K) Q res h' → rdE c e σ H Q
def SA (cl : Cl) (e : Es) : Prop := ∀ (c : RC), RCok c cl → ∀ env h res h', evs c.P cl e env h = some (res, h') → ∀ r σ H Q, Sim c.K r h H → EnvR c.K r h.next H σ env → PG c.K (c.wt σ) r h H (RepL c.K) Q res h' → rdA c e σ H Q
def SO (cl : Cl) (e : Eo) : Prop := ∀ (c : RC), RCok c cl → ∀ env h res h', evO c.P cl e env h = some (res, h') → ∀ r σ H Q, Sim c.K r h H → EnvR c.K r h.next H σ env → PG c.K (c.wt σ) r h H (fun _ _ _ x y => x = y) Q res h' → rdO c e σ H Q
def ST (cl : Cl) (e : T) : Prop := ∀ (c : RC), RCok c cl → ∀ env h res h', evT c.P cl e env h = some (res, h') → ∀ r σ H Q, Sim c.K r h H → EnvR c.K r h.next H σ env → PG c.K (c.wt σ) r h H (fun _ _ _ x y => x = y) Q res h' → rdT c e σ H Q

section
variable {cl : Cl} {c : RC} {a b : E} {env : Env} {h h' : Hm} {r : Rho} {σ : L2.St} {H : Hp}
theorem s1 {β : Type} (ha : SE cl a) (k : RCok c cl) {f : D → Hm → Res β} {res : Except String β} (e : bnd (ev c.P cl a env h) f = some (res, h')) (S : Sim c.K r h H) (en : EnvR c.K r h.next H σ env)
    {B : Type} {R : Rho → Nat → Hp → B → β → Prop} {Q0 : B → Hp → Prop} (p : PG c.K (c.wt σ) r h H R Q0 res h') {Q : VK}
    (w : ∀ x h1 v r1 H1, f x h1 = some (res, h') → Sim c.K r1 h1 H1 → Ext c.K r h.next H r1 h1.next H1 → RepV c.K r1 h1.next H1 v x → EnvR c.K r1 h1.next H1 σ env → PG c.K (c.wt σ) r1 h1 H1 R Q0 res h' → Q v H1) : rdE c a σ H Q := by
  rcases bnd_cases e with ⟨x, h1, e1, e2⟩ | ⟨kk, e1, e2⟩
  · exact ha c k env h _ h1 e1 r σ H Q S en fun v r1 H1 S1 x1 q1 => w x h1 v r1 H1 e2 S1 x1 q1 (en.ext x1) (p.later x1)
  · subst e2
    exact ha c k env h _ h' e1 r σ H Q S en p
theorem s1T {β : Type} {t : T} (ha : ST cl t) (k : RCok c cl) {f : Bool → Hm → Res β} {res : Except String β} (e : bnd (evT c.P cl t env h) f = some (res, h')) (S : Sim c.K r h H) (en : EnvR c.K r h.next H σ env)
    {B : Type} {R : Rho → Nat → Hp → B → β → Prop} {Q0 : B → Hp → Prop} (p : PG c.K (c.wt σ) r h H R Q0 res h') {Q : Bool → Hp → Prop}
    (w : ∀ x h1 r1 H1, f x h1 = some (res, h') → Sim c.K r1 h1 H1 → Ext c.K r h.next H r1 h1.next H1 → EnvR c.K r1 h1.next H1 σ env → PG c.K (c.wt σ) r1 h1 H1 R Q0 res h' → Q x H1) : rdT c t σ H Q := by
  rcases bnd_cases e with ⟨x, h1, e1, e2⟩ | ⟨kk, e1, e2⟩
  · refine ha c k env h _ h1 e1 r σ H Q S en fun v r1 H1 S1 x1 q1 => ?_
    subst q1
    exact w v h1 r1 H1 e2 S1 x1 (en.ext x1) (p.later x1)
  · subst e2
    exact ha c k env h _ h' e1 r σ H Q S en p
theorem s1O {β : Type} {t : Eo} (ha : SO cl t) (k : RCok c cl) {f : Option Int → Hm → Res β} {res : Except String β} (e : bnd (evO c.P cl t env h) f = some (res, h')) (S : Sim c.K r h H) (en : EnvR c.K r h.next H σ env)
    {B : Type} {R : Rho → Nat → Hp → B → β → Prop} {Q0 : B → Hp → Prop} (p : PG c.K (c.wt σ) r h H R Q0 res h') {Q : Option Int → Hp → Prop}
    (w : ∀ x h1 r1 H1, f x h1 = some (res, h') → Sim c.K r1 h1 H1 → Ext c.K r h.next H r1 h1.next H1 → EnvR c.K r1 h1.next H1 σ env → PG c.K (c.wt σ) r1 h1 H1 R Q0 res h' → Q x H1) : rdO c t σ H Q := by
  rcases bnd_cases e with ⟨x, h1, e1, e2⟩ | ⟨kk, e1, e2⟩
  · refine ha c k env h _ h1 e1 r σ H Q S en fun v r1 H1 S1 x1 q1 => ?_
    subst q1
    exact w v h1 r1 H1 e2 S1 x1 (en.ext x1) (p.later x1)
  · subst e2
    exact ha c k env h _ h' e1 r σ H Q S en p
theorem s1A {β : Type} {t : Es} (ha : SA cl t) (k : RCok c cl) {f : List D → Hm → Res β} {res : Except String β} (e : bnd (evs c.P cl t env h) f = some (res, h')) (S : Sim c.K r h H) (en : EnvR c.K r h.next H σ env)
    {B : Type} {R : Rho → Nat → Hp → B → β → Prop} {Q0 : B → Hp → Prop} (p : PG c.K (c.wt σ) r h H R Q0 res h') {Q : List V → Hp → Prop}
    (w : ∀ x h1 v r1 H1, f x h1 = some (res, h') → Sim c.K r1 h1 H1 → Ext c.K r h.next H r1 h1.next H1 → RepL c.K r1 h1.next H1 v x → EnvR c.K r1 h1.next H1 σ env → PG c.K (c.wt σ) r1 h1 H1 R Q0 res h' → Q v H1) : rdA c t σ H Q := by
  rcases bnd_cases e with ⟨x, h1, e1, e2⟩ | ⟨kk, e1, e2⟩
  · exact ha c k env h _ h1 e1 r σ H Q S en fun v r1 H1 S1 x1 q1 => w x h1 v r1 H1 e2 S1 x1 q1 (en.ext x1) (p.later x1)
  · subst e2
    exact ha c k env h _ h' e1 r σ H Q S en p
theorem repCst (K : PySem.W.Frag) (r : Rho) (n : Nat) (H : Hp) (k : Cst) : RepV K r n H (cV k) k.d := by
  cases k with
  | non => exact .non
  | bl b => exact .bl b
  | int i => exact .int i
  | str s => exact .str _
theorem repCsts (K : PySem.W.Frag) (r : Rho) (n : Nat) (H : Hp) : ∀ ds : List Cst, RepL K r n H (ds.map cV) (ds.map Cst.d)
  | [] => .nil
  | k :: ks => .cons (repCst K r n H k) (repCsts K r n H ks)

theorem dgetT_of {K : PySem.W.Frag} {r : Rho} {h : Hm} {H : Hp} (S : Sim K r h H) {a : Nat} {o : Option D} {us : List V} {ks : List D} (q : RepL K r h.next H us ks) (e : dgetT h a ks = some o) {b : Addr} (hb : H b = some (.tup us)) :
    ∃ u, DGet H (r a) (.ref b) u ∧ (∀ d, o = some d → ∃ z, u = some z ∧ RepV K r h.next H z d) ∧ (o = none → u = none) := by
  unfold dgetT at e
  split at e
  · rename_i kvs ha
    obtain ⟨k, e1, e2⟩ := Option.map_eq_some_iff.mp e
    obtain ⟨ws, h1, q1⟩ := (S.obj a _ ha).2
    obtain ⟨g1, g2⟩ := repK_get k q1
    rw [keys_of q e1] at hb
    refine ⟨_, DGet.t h1 hb, fun d z => ?_, fun z => ?_⟩
    · rw [z] at e2
      exact g1 d e2
    · rw [z] at e2
      exact g2 e2
  · rename_i kvs ha
    obtain ⟨k, e1, e2⟩ := Option.map_eq_some_iff.mp e
    obtain ⟨ob, ws, h1, q1⟩ := (S.obj a _ ha).2
    obtain ⟨g1, g2⟩ := repK_get k q1
    rw [keys_of q e1] at hb
    refine ⟨_, Or.inr ⟨ws, k, b, .inr ⟨ob, h1⟩, rfl, hb, rfl⟩, fun d z => ?_, fun z => ?_⟩
    · rw [z] at e2
      exact g1 d e2
    · rw [z] at e2
      exact g2 e2
  · cases e
theorem isD_of {K : PySem.W.Frag} {r : Rho} {h : Hm} {H : Hp} (S : Sim K r h H) {a : Nat} {ks : List D} {o : Option D} (e : dgetT h a ks = some o) : IsD H (r a) := by
  unfold dgetT at e
  split at e
  · rename_i kvs ha
    obtain ⟨ws, h1, _⟩ := (S.obj a _ ha).2
    exact .inr ⟨ws, .inl h1⟩
  · rename_i kvs ha
    obtain ⟨ob, ws, h1, _⟩ := (S.obj a _ ha).2
    exact .inr ⟨ws, .inr ⟨ob, h1⟩⟩
  · cases e

theorem pair_rep {K : PySem.W.Frag} {r : Rho} {n : Nat} {H : Hp} : ∀ (us : List V) (vs : List D) (kvs : List (L2.Key × D)), RepL K r n H us vs → pairUp vs = some kvs → ∃ ks : List (Key × V), pairL us = ks.map (fun kv => (kV kv.1, kv.2)) ∧ RepK K r n H ks kvs
  | _, _, kvs, .nil, e => by cases e; exact ⟨[], rfl, rfl, .nil⟩
  | _, _, kvs, .cons a .nil, e => by cases e
  | _, _, kvs, .cons (v := v1) (d := d1) a (.cons (v := v2) (d := d2) b t), e => by
    simp only [pairUp] at e
    split at e
    · rename_i q ps h1 h2
      cases e
      obtain ⟨ks, e1, e2⟩ := pair_rep _ _ ps t h2
      have ek : v1 = kV q := by
        unfold key? at h1
        split at h1
        · cases h1; cases a; rfl
        · cases h1; cases a; rfl
        · cases h1
      refine ⟨(q, v2) :: ks, by rw [ek, List.map_cons, ← e1]; rfl, by rw [List.map_cons, List.map_cons, e2.1], .cons b e2.2⟩
    · cases e
theorem rep_merge {K : PySem.W.Frag} {r : Rho} {n : Nat} {H : Hp} : ∀ (ks : List (Key × V)) (kvs : List (Key × D)) (ws : List (Key × V)) (ds : List (Key × D)), RepK K r n H ks kvs → RepK K r n H ws ds → RepK K r n H (mergeK ws ks) (kmerge ds kvs)
  | [], [], ws, ds, _, q => q
  | [], _ :: _, _, _, q, _ => by cases q.1
  | _ :: _, [], _, _, q, _ => by cases q.1
  | (k1, v1) :: ks, (k2, d2) :: kvs, ws, ds, q, q0 => by
    obtain ⟨q1, q2⟩ := q
    rw [List.map_cons, List.map_cons] at q1 q2
    injection q1 with q3 q4
    cases q2 with
    | cons a t =>
      have : k1 = k2 := q3
      subst this
      exact rep_merge ks kvs _ _ ⟨q4, t⟩ (repK_put k1 a q0)
theorem bnd_pair {P : Prog} {cl : Cl} {a b : E} {es : Es} {env : Env} {h : Hm} {f : List D → Hm → Res D} : bnd (evs P cl (.cons a (.cons b es)) env h) f = bnd (ev P cl a env h) fun x h1 => bnd (ev P cl b env h1) fun y h2 => bnd (evs P cl es env h2) fun zs h3 => f (x :: y :: zs) h3 := by
  simp only [evs]
  cases e1 : ev P cl a env h with
  | none => rfl
  | some p =>
    obtain ⟨o, h1⟩ := p
    cases o with
    | error k => rfl
    | ok x =>
      simp only [bnd_ok]
      cases e2 : ev P cl b env h1 with
      | none => rfl
      | some p2 =>
        obtain ⟨o2, h2⟩ := p2
        cases o2 with
        | error k => rfl
        | ok y =>
          simp only [bnd_ok]
          cases e3 : evs P cl es env h2 with
          | none => rfl
          | some p3 =>
            obtain ⟨o3, h3⟩ := p3
            cases o3 with
            | error k => rfl
            | ok zs => rfl
theorem s_comp {elt : E} {tst : T} {g : Tg} {gd : List (Nat × O)} {own : List Nat} {items : List D} {a0 : Nat} (hE : SE cl elt) (hT : ST cl tst) (k : RCok c cl) {J : It} {r1 : Rho} {n1 : Nat} {H1 : Hp} (G : Gives c.K J items gd r1 n1 H1)
    (hg : ∀ i ∈ g.is, i ∈ own) {r0 : Rho} {h0 : Hm} {H0 : Hp} (S0 : Sim c.K r0 h0 H0) (x0 : Ext c.K r1 n1 H1 r0 h0.next H0) (la : a0 < h0.next) (en : EnvR c.K r0 h0.next H0 σ env) {res : Except String D} {Q : VK} {W : XK}
    (e : compL (fun e1 h2 => ev c.P cl elt e1 h2) (fun e1 h2 => evT c.P cl tst e1 h2) g gd a0 (wipeE env own) items h0 = some (res, h')) (p : PG c.K W r0 h0 H0 (RepV c.K) Q res h') :
    ∃ W : Nat → Nat → Hp → Prop, (∃ m, W 0 m H0) ∧ ∀ i m H, W i m H → (J.stop i H ∧ Q (.ref (r0 a0)) H) ∨ (J.go i H ∧ ∃ Nx : Hp → Prop, (∀ H', Nx H' → ∃ m', m' < m ∧ W (i + 1) m' H') ∧
      ∀ x H', J.yld i H x H' → rdG c.K g x (wipe σ own) H' fun σ2 H2 => wipe σ2 own = wipe σ own ∧ rdT (c.with noW) tst σ2 H2 fun b H3 =>
        if b = true then rdE (c.with noW) elt σ2 H3 fun y H4 => ∃ acc, H4 (r0 a0) = some (.lst acc) ∧ acc.length < sizeLine ∧ Nx (upd H4 (r0 a0) (.lst (acc ++ [y]))) else Nx H3) := by
  refine ⟨fun i m H => m = items.length - i ∧ i ≤ items.length ∧ ∃ r h, Sim c.K r h H ∧ Ext c.K r0 h0.next H0 r h.next H ∧
    compL (fun e1 h2 => ev c.P cl elt e1 h2) (fun e1 h2 => evT c.P cl tst e1 h2) g gd a0 (wipeE env own) (items.drop i) h = some (res, h'), ⟨_, rfl, Nat.zero_le _, r0, h0, S0, Ext.refl, e⟩, ?_⟩
  rintro i m H ⟨rfl, hi, r, h, S, x, e⟩
  have k' : RCok (c.with noW) cl := k.with noW
  cases hd : items[i]? with
  | none =>
    have hl : items.length ≤ i := List.getElem?_eq_none_iff.mp hd
    rw [List.drop_of_length_le hl] at e
    unfold compL at e
    split at e
    · rename_i st
      cases e
      refine .inl ⟨((G r _ H S (x0.trans x) st i).2 hl), ?_⟩
      rw [← x.at_ a0 la]
      exact p _ r H S x (.ref (Nat.lt_of_lt_of_le la x.le))
    · cases e
  | some d =>
    have hil : i < items.length := (List.getElem?_eq_some_iff.mp hd).1
    have ed : items.drop i = d :: items.drop (i + 1) := by
      rw [List.drop_eq_getElem_cons hil]
      congr 1
      rw [List.getElem?_eq_getElem hil] at hd
      exact Option.some.inj hd
    rw [ed] at e
    unfold compL at e
    split at e
    · rename_i st
      obtain ⟨g1, g2⟩ := (G r h H S (x0.trans x) st i).1 d hd
      refine .inr ⟨g1, fun H' => ∃ r h, Sim c.K r h H' ∧ Ext c.K r0 h0.next H0 r h.next H' ∧
        compL (fun e1 h2 => ev c.P cl elt e1 h2) (fun e1 h2 => evT c.P cl tst e1 h2) g gd a0 (wipeE env own) (items.drop (i + 1)) h = some (res, h'), ?_, ?_⟩
      · rintro H' ⟨r2, h2, S2, x2, e2⟩
        exact ⟨_, by omega, rfl, hil, r2, h2, S2, x2, e2⟩
      · intro y H' yl
        obtain ⟨S', x', q'⟩ := g2 y H' yl
        split at e
        · cases e
        · rename_i env1 he1
          have en' : EnvR c.K r h.next H' (wipe σ own) (wipeE env own) := ((en.ext x).ext x').wipe own
          refine s_g q' en' he1 fun σ2 en2 ap => ⟨(ap own hg).trans wipe_wipe, ?_⟩
          obtain ⟨b, h2, e1, e2⟩ := bndN_cases e
          refine hT (c.with noW) k' env1 h _ h2 e1 r σ2 H' _ S' en2 ?_
          intro b' r2 H2 S2 x2 eb
          subst eb
          split at e2
          · rename_i hb
            subst hb
            rw [if_pos rfl]
            obtain ⟨z, h3, e3, e4⟩ := bndN_cases e2
            refine hE (c.with noW) k' env1 h2 _ h3 e3 r2 σ2 H2 _ S2 (en2.ext x2) ?_
            intro v r3 H3 S3 x3 q3
            split at e4
            · rename_i acc ha
              split at e4
              · rename_i hl
                obtain ⟨vs, h1, q4⟩ := (S3.obj a0 _ ha).2
                have xx := ((x.trans x').trans x2).trans x3
                have er : r3 a0 = r0 a0 := xx.at_ a0 la
                rw [er] at h1
                refine ⟨vs, h1, by rw [q4.len]; exact lim_lt hl, r3, _, ?_, ?_, e4⟩
                · rw [← er]
                  exact S3.put ha rfl rfl ⟨_, upd_same, (q4.ext (S3.free ha rfl).ext).append1 (q3.ext (S3.free ha rfl).ext)⟩
                · refine xx.trans ?_
                  rw [← er]
                  exact (S3.free ha rfl).ext
              · cases e4
            · cases e4
          · rename_i hb
            rw [if_neg hb]
            exact ⟨r2, h2, S2, (x.trans x').trans x2, e2⟩
    · cases e
theorem s_compX {elt : E} {tst : T} {g : Tg} {gd : List (Nat × O)} {own : List Nat} {items : List D} {a0 : Nat} (hE : SE cl elt) (hT : ST cl tst) (k : RCok c cl) {J : It} {r1 : Rho} {n1 : Nat} {H1 : Hp} (G : Gives c.K J items gd r1 n1 H1)
    (hg : ∀ i ∈ g.is, i ∈ own) {r0 : Rho} {h0 : Hm} {H0 : Hp} (S0 : Sim c.K r0 h0 H0) (x0 : Ext c.K r1 n1 H1 r0 h0.next H0) (la : a0 < h0.next) (en : EnvR c.K r0 h0.next H0 σ env) {res : Except String D} {Q : VK}
    (e : compX (fun e1 h2 => ev c.P cl elt e1 h2) (fun e1 h2 => evT c.P cl tst e1 h2) g gd a0 (wipeE env own) items h0 = some (res, h')) (p : PG c.K (c.wt σ) r0 h0 H0 (RepV c.K) Q res h') :
    ∃ W : Nat → Nat → Hp → Prop, (∃ m, W 0 m H0) ∧ ∀ i m H, W i m H → (J.stop i H ∧ Q (.ref (r0 a0)) H) ∨ (J.go i H ∧ ∃ Nx : Hp → Prop, (∀ H', Nx H' → ∃ m', m' < m ∧ W (i + 1) m' H') ∧
      ∀ x H', J.yld i H x H' → rdG c.K g x (wipe σ own) H' fun σ2 H2 => wipe σ2 own = wipe σ own ∧ rdT (c.with noW) tst σ2 H2 fun b H3 =>
        if b = true then rdE (c.with fun cls d _ H' => c.W cls d σ H') elt σ2 H3 fun y H4 => ∃ acc, H4 (r0 a0) = some (.lst acc) ∧ acc.length < sizeLine ∧ Nx (upd H4 (r0 a0) (.lst (acc ++ [y]))) else Nx H3) := by
  refine ⟨fun i m H => m = items.length - i ∧ i ≤ items.length ∧ ∃ r h, Sim c.K r h H ∧ Ext c.K r0 h0.next H0 r h.next H ∧
    compX (fun e1 h2 => ev c.P cl elt e1 h2) (fun e1 h2 => evT c.P cl tst e1 h2) g gd a0 (wipeE env own) (items.drop i) h = some (res, h'), ⟨_, rfl, Nat.zero_le _, r0, h0, S0, Ext.refl, e⟩, ?_⟩
  rintro i m H ⟨rfl, hi, r, h, S, x, e⟩
  have k' : RCok (c.with noW) cl := k.with noW
  cases hd : items[i]? with
  | none =>
    have hl : items.length ≤ i := List.getElem?_eq_none_iff.mp hd
    rw [List.drop_of_length_le hl] at e
    unfold compX at e
    split at e
    · rename_i st
      cases e
      refine .inl ⟨((G r _ H S (x0.trans x) st i).2 hl), ?_⟩
      rw [← x.at_ a0 la]
      exact p _ r H S x (.ref (Nat.lt_of_lt_of_le la x.le))
    · cases e
  | some d =>
    have hil : i < items.length := (List.getElem?_eq_some_iff.mp hd).1
    have ed : items.drop i = d :: items.drop (i + 1) := by
      rw [List.drop_eq_getElem_cons hil]
      congr 1
      rw [List.getElem?_eq_getElem hil] at hd
      exact Option.some.inj hd
    rw [ed] at e
    unfold compX at e
    split at e
    · rename_i st
      obtain ⟨g1, g2⟩ := (G r h H S (x0.trans x) st i).1 d hd
      refine .inr ⟨g1, fun H' => ∃ r h, Sim c.K r h H' ∧ Ext c.K r0 h0.next H0 r h.next H' ∧
        compX (fun e1 h2 => ev c.P cl elt e1 h2) (fun e1 h2 => evT c.P cl tst e1 h2) g gd a0 (wipeE env own) (items.drop (i + 1)) h = some (res, h'), ?_, ?_⟩
      · rintro H' ⟨r2, h2, S2, x2, e2⟩
        exact ⟨_, by omega, rfl, hil, r2, h2, S2, x2, e2⟩
      · intro y H' yl
        obtain ⟨S', x', q'⟩ := g2 y H' yl
        split at e
        · cases e
        · rename_i env1 he1
          have en' : EnvR c.K r h.next H' (wipe σ own) (wipeE env own) := ((en.ext x).ext x').wipe own
          refine s_g q' en' he1 fun σ2 en2 ap => ⟨(ap own hg).trans wipe_wipe, ?_⟩
          obtain ⟨b, h2, e1, e2⟩ := bndN_cases e
          refine hT (c.with noW) k' env1 h _ h2 e1 r σ2 H' _ S' en2 ?_
          intro b' r2 H2 S2 x2 eb
          subst eb
          split at e2
          · rename_i hb
            subst hb
            rw [if_pos rfl]
            rcases bnd_cases e2 with ⟨z, h3, e3, e4⟩ | ⟨kk, e3, e4⟩
            case inr =>
              subst e4
              exact hE (c.with fun cls d _ H' => c.W cls d σ H') (k.with _) env1 h2 _ h' e3 r2 σ2 H2 _ S2 (en2.ext x2) fun r3 H3 S3 x3 => p r3 H3 S3 (((x.trans x').trans x2).trans x3)
            refine hE (c.with fun cls d _ H' => c.W cls d σ H') (k.with _) env1 h2 _ h3 e3 r2 σ2 H2 _ S2 (en2.ext x2) ?_
            intro v r3 H3 S3 x3 q3
            split at e4
            · rename_i acc ha
              split at e4
              · rename_i hl
                obtain ⟨vs, h1, q4⟩ := (S3.obj a0 _ ha).2
                have xx := ((x.trans x').trans x2).trans x3
                have er : r3 a0 = r0 a0 := xx.at_ a0 la
                rw [er] at h1
                refine ⟨vs, h1, by rw [q4.len]; exact lim_lt hl, r3, _, ?_, ?_, e4⟩
                · rw [← er]
                  exact S3.put ha rfl rfl ⟨_, upd_same, (q4.ext (S3.free ha rfl).ext).append1 (q3.ext (S3.free ha rfl).ext)⟩
                · refine xx.trans ?_
                  rw [← er]
                  exact (S3.free ha rfl).ext
              · cases e4
            · cases e4
          · rename_i hb
            rw [if_neg hb]
            exact ⟨r2, h2, S2, (x.trans x').trans x2, e2⟩
    · cases e
end

mutual
theorem sP (cl : Cl) : ∀ es : Es, es.len % 2 = 0 → ∀ (c : RC), RCok c cl → ∀ (env : Env) (h : Hm) (res : Except String D) (h' : Hm) {f : List D → Hm → Res D}, bnd (evs c.P cl es env h) f = some (res, h') → ∀ (r : Rho) (σ : L2.St) (H : Hp) (Q0 : VK), Sim c.K r h H → EnvR c.K r h.next H σ env → PG c.K (c.wt σ) r h H (RepV c.K) Q0 res h' →
    ∀ (Qp : List (V × V) → Hp → Prop), (∀ vs h1 us r1 H1, f vs h1 = some (res, h') → Sim c.K r1 h1 H1 → Ext c.K r h.next H r1 h1.next H1 → RepL c.K r1 h1.next H1 us vs → PG c.K (c.wt σ) r1 h1 H1 (RepV c.K) Q0 res h' → Qp (pairL us) H1) → tPairs (pairT (rdL c es)) σ H Qp
  | .nil => by
    intro _ c k env h res h' f e r σ H Q0 S en p Qp w
    have e : f [] h = some (res, h') := by simpa only [evs, ok, bnd_ok] using e
    exact w [] h [] r H e S Ext.refl .nil p
  | .cons a .nil => by intro hl; cases hl
  | .cons a (.cons b es) => by
    intro hl c k env h res h' f e r σ H Q0 S en p Qp w
    have hl' : es.len % 2 = 0 := by
      have hl : (es.len + 1 + 1) % 2 = 0 := hl
      omega
    rw [bnd_pair] at e
    show rdE c a σ H fun x H1 => rdE c b σ H1 fun y H2 => tPairs (pairT (rdL c es)) σ H2 fun ps H3 => Qp ((x, y) :: ps) H3
    refine s1 (sE cl a) k e S en p fun x h1 v r1 H1 e1 S1 x1 q1 en1 p1 => s1 (sE cl b) k e1 S1 en1 p1 fun y h2 u r2 H2 e2 S2 x2 q2 en2 p2 => ?_
    refine sP cl es hl' c k env h2 res h' e2 r2 σ H2 Q0 S2 en2 p2 _ fun vs h3 us r3 H3 e3 S3 x3 q3 p3 => ?_
    exact w (x :: y :: vs) h3 (v :: u :: us) r3 H3 e3 S3 ((x1.trans x2).trans x3) (.cons ((q1.ext x2).ext x3) (.cons (q2.ext x3) q3)) p3
theorem sJ (cl : Cl) : ∀ es : Es, ∀ (c : RC), RCok c cl → ∀ (env : Env) (h : Hm) (res : Except String D) (h' : Hm) (acc : Str), evJ c.P cl es acc env h = some (res, h') → ∀ (r : Rho) (σ : L2.St) (H : Hp) (Q : VK), Sim c.K r h H → EnvR c.K r h.next H σ env → PG c.K (c.wt σ) r h H (RepV c.K) Q res h' → tJs (rdL c es) acc σ H fun out H1 => Q (.str out) H1
  | .nil => by
    intro c k env h res h' acc e r σ H Q S en p
    simp only [evJ] at e
    cases e
    exact s_plain S (.str _) p
  | .cons a es => by
    intro c k env h res h' acc e r σ H Q S en p
    simp only [evJ] at e
    show rdE c a σ H fun x H1 => ∃ y : Str, x = .str y ∧ (acc ++ y).length ≤ sizeLine ∧ tJs (rdL c es) (acc ++ y) σ H1 fun out H1 => Q (.str out) H1
    refine s1 (sE cl a) k e S en p fun x h1 v r1 H1 e1 S1 x1 q1 en1 p1 => ?_
    split at e1
    · rename_i y
      split at e1
      · rename_i hl
        cases q1
        exact ⟨y, rfl, lim_le hl, sJ cl es c k env h1 res h' (acc ++ y) e1 r1 σ H1 Q S1 en1 p1⟩
      · cases e1
    · cases e1
theorem sE (cl : Cl) : ∀ e : E, SE cl e
  | .var i => by
    intro c k env h res h' e r σ H Q S en p
    simp only [ev] at e
    split at e
    · rename_i d hd
      cases e
      obtain ⟨v, e1, q⟩ := en.at_ i d hd
      exact ⟨v, e1, s_plain S q p⟩
    · cases e
  | .con kk => by
    intro c k env h res h' e r σ H Q S en p
    simp only [ev] at e
    cases e
    exact s_plain S (repCst _ _ _ _ kk) p
  | .glo x => by
    intro c k env h res h' e r σ H Q S en p
    simp only [ev] at e
    obtain ⟨d, e1, e2, e3⟩ := liftO_cases e
    subst e2 e3
    exact s_plain S (k.gv x d e1 _ _ _) p
  | .bin o a b => by
    intro c k env h res h' e r σ H Q S en p
    simp only [ev] at e
    exact s1 (sE cl a) k e S en p fun x h1 v r1 H1 e1 S1 x1 q1 en1 p1 => s1 (sE cl b) k e1 S1 en1 p1 fun y h2 w r2 H2 e2 S2 x2 q2 en2 p2 => s_bin S2 (q1.ext x2) q2 e2 p2
  | .neg a => by
    intro c k env h res h' e r σ H Q S en p
    simp only [ev] at e
    refine s1 (sE cl a) k e S en p fun x h1 v r1 H1 e1 S1 x1 q1 en1 p1 => ?_
    cases q1 with
    | int i => cases e1; exact ⟨i, rfl, s_plain S1 (.int _) p1⟩
    | _ => cases e1
  | .cmp o a b => by
    intro c k env h res h' e r σ H Q S en p
    simp only [ev] at e
    refine s1 (sE cl a) k e S en p fun x h1 v r1 H1 e1 S1 x1 q1 en1 p1 => s1 (sE cl b) k e1 S1 en1 p1 fun y h2 w r2 H2 e2 S2 x2 q2 en2 p2 => ?_
    obtain ⟨d, e3, e4, e5⟩ := liftO_cases e2
    obtain ⟨bb, e6, e7⟩ := Option.map_eq_some_iff.mp e3
    subst e4 e5 e7
    exact s_cmp S2 (q1.ext x2) q2 e6 (s_plain S2 (.bl _) p2)
  | .chn o o' a b d => by
    intro c k env h res h' e r σ H Q S en p
    simp only [ev] at e
    refine s1 (sE cl a) k e S en p fun x h1 v r1 H1 e1 S1 x1 q1 en1 p1 => s1 (sE cl b) k e1 S1 en1 p1 fun y h2 w r2 H2 e2 S2 x2 q2 en2 p2 => ?_
    split at e2
    · rename_i hc
      refine s_cmp S2 (q1.ext x2) q2 hc ⟨true, rfl, ?_⟩
      rw [if_pos rfl]
      refine s1 (sE cl d) k e2 S2 en2 p2 fun z h3 u r3 H3 e3 S3 x3 q3 en3 p3 => ?_
      obtain ⟨d, e4, e5, e6⟩ := liftO_cases e3
      obtain ⟨bb, e7, e8⟩ := Option.map_eq_some_iff.mp e4
      subst e5 e6 e8
      exact s_cmp S3 (q2.ext x3) q3 e7 (s_plain S3 (.bl _) p3)
    · rename_i hc
      cases e2
      refine s_cmp S2 (q1.ext x2) q2 hc ⟨false, rfl, ?_⟩
      rw [if_neg Bool.false_ne_true]
      exact s_plain S2 (.bl _) p2
    · cases e2
  | .and a b => by
    intro c k env h res h' e r σ H Q S en p
    simp only [ev] at e
    refine s1 (sE cl a) k e S en p fun x h1 v r1 H1 e1 S1 x1 q1 en1 p1 => ?_
    cases q1 with
    | bl bb =>
      refine ⟨bb, rfl, ?_⟩
      cases bb with
      | true => rw [if_pos rfl]; exact sE cl b c k env h1 _ h' e1 r1 σ H1 Q S1 en1 p1
      | false =>
        rw [if_neg Bool.false_ne_true]
        cases e1
        exact s_plain S1 (.bl _) p1
    | _ => cases e1
  | .or a b => by
    intro c k env h res h' e r σ H Q S en p
    simp only [ev] at e
    refine s1 (sE cl a) k e S en p fun x h1 v r1 H1 e1 S1 x1 q1 en1 p1 => ?_
    cases q1 with
    | bl bb =>
      refine ⟨bb, rfl, ?_⟩
      cases bb with
      | true =>
        rw [if_pos rfl]
        cases e1
        exact s_plain S1 (.bl _) p1
      | false => rw [if_neg Bool.false_ne_true]; exact sE cl b c k env h1 _ h' e1 r1 σ H1 Q S1 en1 p1
    | _ => cases e1
  | .not a => by
    intro c k env h res h' e r σ H Q S en p
    simp only [ev] at e
    refine s1 (sE cl a) k e S en p fun x h1 v r1 H1 e1 S1 x1 q1 en1 p1 => ?_
    cases q1 with
    | bl bb => cases e1; exact ⟨bb, rfl, s_plain S1 (.bl _) p1⟩
    | _ => cases e1
  | .ife t a b => by
    intro c k env h res h' e r σ H Q S en p
    simp only [ev] at e
    refine s1T (sT cl t) k e S en p fun x h1 r1 H1 e1 S1 x1 en1 p1 => ?_
    cases x with
    | true => rw [if_pos rfl] at e1 ⊢; exact sE cl a c k env h1 _ h' e1 r1 σ H1 Q S1 en1 p1
    | false => rw [if_neg Bool.false_ne_true] at e1 ⊢; exact sE cl b c k env h1 _ h' e1 r1 σ H1 Q S1 en1 p1
  | .idx a b => by
    intro c k env h res h' e r σ H Q S en p
    simp only [ev] at e
    refine s1 (sE cl a) k e S en p fun x h1 v r1 H1 e1 S1 x1 q1 en1 p1 => s1 (sE cl b) k e1 S1 en1 p1 fun y h2 w r2 H2 e2 S2 x2 q2 en2 p2 => ?_
    obtain ⟨d, e3, e4, e5⟩ := liftO_cases e2
    subst e4 e5
    exact s_idx S2 (q1.ext x2) q2 e3 p2
  | .dgt a b => by
    intro c k env h res h' e r σ H Q S en p
    simp only [ev] at e
    refine s1 (sE cl a) k e S en p fun x h1 v r1 H1 e1 S1 x1 q1 en1 p1 => s1 (sE cl b) k e1 S1 en1 p1 fun y h2 w r2 H2 e2 S2 x2 q2 en2 p2 => ?_
    have q1' := q1.ext x2
    cases q1' with
    | @ref a la =>
      simp only at e2
      split at e2
      · rename_i d hd
        cases e2
        obtain ⟨u, g, g1, _⟩ := dget_of S2 q2 hd
        obtain ⟨z, ez, qz⟩ := g1 _ rfl
        subst ez
        exact ⟨_, z, rfl, g, s_plain S2 qz p2⟩
      · cases e2
    | _ => cases e2
  | .slc a lo hi => by
    intro c k env h res h' e r σ H Q S en p
    simp only [ev] at e
    exact s1 (sE cl a) k e S en p fun x h1 v r1 H1 e1 S1 x1 q1 en1 p1 => s1O (sO cl lo) k e1 S1 en1 p1 fun l h2 r2 H2 e2 S2 x2 en2 p2 =>
      s1O (sO cl hi) k e2 S2 en2 p2 fun u h3 r3 H3 e3 S3 x3 en3 p3 => s_slc S3 (q1.ext (x2.trans x3)) e3 p3
  | .att a f => by
    intro c k env h res h' e r σ H Q S en p
    simp only [ev] at e
    refine s1 (sE cl a) k e S en p fun x h1 v r1 H1 e1 S1 x1 q1 en1 p1 => ?_
    cases q1 with
    | @ref a la =>
      simp only at e1
      split at e1
      · rename_i cn fs ha
        split at e1
        · rename_i hf
          obtain ⟨d, e3, e4, e5⟩ := liftO_cases e1
          subst e4 e5
          obtain ⟨dx, ws, h1, q2⟩ := (S1.obj a _ ha).2
          obtain ⟨u, e6, q3⟩ := repF_get q2 e3
          obtain ⟨c1, c2⟩ := k.fld cn f hf
          exact ⟨_, _, dx, ws, u, rfl, h1, c1, c2, e6, s_plain S1 q3 p1⟩
        · cases e1
      · cases e1
    | _ => cases e1
  | .tup es => by
    intro c k env h res h' e r σ H Q S en p
    simp only [ev] at e
    refine s1A (sA cl es) k e S en p fun x h1 v r1 H1 e1 S1 x1 q1 en1 p1 => ?_
    split at e1
    · rename_i hl
      cases e1
      exact ⟨by rw [q1.len]; exact lim_le hl, s_newtup S1 q1 p1⟩
    · cases e1
  | .lst es => by
    intro c k env h res h' e r σ H Q S en p
    simp only [ev] at e
    refine s1A (sA cl es) k e S en p fun x h1 v r1 H1 e1 S1 x1 q1 en1 p1 => ?_
    split at e1
    · rename_i hl
      cases e1
      exact ⟨by rw [q1.len]; exact lim_le hl, s_newlist S1 q1 p1⟩
    · cases e1
  | .dict .nil => by
    intro c k env h res h' e r σ H Q S en p
    simp only [ev] at e
    cases e
    exact s_newdict S (ws := []) (kvs := []) ⟨rfl, .nil⟩ p
  | .dict (.cons a b) => by
    intro c k env h res h' e r σ H Q S en p
    simp only [ev] at e
    split at e
    · rename_i hl
      show tDisp (pairT (rdL c (.cons a b))) σ H Q
      intro p0 hp0
      have x1 := (Free.extN (K := c.K) (r := r) (n := h.next) (u := .dK []) (.inl hp0))
      have S1 : Sim c.K (rn r h.next p0) (h.new (.dic [])) (upd H p0 (.dK [])) := S.new hp0 rfl ⟨[], upd_same, ⟨rfl, .nil⟩⟩
      refine sP cl (.cons a b) hl c k env (h.new (.dic [])) res h' e (rn r h.next p0) σ _ Q S1 (en.ext x1) (p.later x1) _ ?_
      intro vs h1 us r2 H2 e2 S2 x2 q2 p2
      unfold dispO at e2
      split at e2
      · rename_i kvs hg hk
        split at e2
        · rename_i h15
          cases e2
          obtain ⟨ws, g1, g2⟩ := (S2.obj h.next _ hg).2
          have w0 : ws = [] := by
            have := g2.1
            rw [List.map_nil] at this
            exact List.map_eq_nil_iff.mp this
          subst w0
          have er : r2 h.next = p0 := by rw [x2.at_ h.next (Nat.lt_succ_self _), rn_at]
          rw [er] at g1
          obtain ⟨ks, e3, q3⟩ := pair_rep us vs kvs q2 hk
          refine ⟨g1, ks, e3, by rw [show ks.length = kvs.length from by have := congrArg List.length q3.1; simpa using this]; exact h15, ?_⟩
          have S3 : Sim c.K r2 (h1.put h.next (.dic (kmerge [] kvs))) (upd H2 p0 (.dK (mergeK [] ks))) := by
            rw [← er]
            exact S2.put hg rfl rfl ⟨_, upd_same, RepK.ext (S2.free hg rfl).ext (rep_merge ks kvs [] [] q3 ⟨rfl, .nil⟩)⟩
          have x3 : Ext c.K r2 h1.next H2 r2 h1.next (upd H2 p0 (.dK (mergeK [] ks))) := by rw [← er]; exact (S2.free hg rfl).ext
          exact p2 (.ref p0) r2 _ S3 x3 (by rw [← er]; exact .ref x2.le)
        · cases e2
      · cases e2
    · cases e
  | .call f es ds => by
    intro c k env h res h' e r σ H Q S en p
    simp only [ev] at e
    exact s1A (sA cl es) k e S en p fun x h1 v r1 H1 e1 S1 x1 q1 en1 p1 => k.sp f _ h1 res h' e1 r1 H1 _ Q _ S1 (q1.app (repCsts _ _ _ _ ds)) p1
  | .meth o m es ds => by
    intro c k env h res h' e r σ H Q S en p
    simp only [ev] at e
    refine s1 (sE cl o) k e S en p fun x h1 v r1 H1 e1 S1 x1 q1 en1 p1 => ?_
    cases q1 with
    | @ref a la =>
      simp only at e1
      split at e1
      · rename_i cn fs ha
        split at e1
        · rename_i f hm hl
          obtain ⟨dx, ws, h1, q2⟩ := (S1.obj a _ ha).2
          refine ⟨_, dx, ws, cn, f, rfl, h1, hm, repF_none q2 hl, ?_⟩
          refine s1A (sA cl es) k e1 S1 en1 p1 fun vs h2 us r2 H2 e2 S2 x2 q3 en2 p2 => ?_
          exact k.sp f _ h2 res h' e2 r2 H2 _ Q _ S2 (.cons (RepV.ext x2 (.ref la)) (q3.app (repCsts _ _ _ _ ds))) p2
        · cases e1
      · cases e1
    | _ => cases e1
  | .new cn es => by
    intro c k env h res h' e r σ H Q S en p
    simp only [ev] at e
    refine s1A (sA cl es) k e S en p fun ds h1 vs r1 H1 e1 S1 x1 q1 en1 p1 => ?_
    intro x dx nx ndx ne
    split at e1
    · rename_i f hm
      refine ⟨f, hm, ?_⟩
      have nx' : upd H1 dx (.own x) x = none := by rw [upd_ne ne.symm]; exact nx
      have xa := (Free.ext (K := c.K) (r := r1) (n := h1.next) (u := .own x) (.inl ndx))
      have xb := (Free.extN (K := c.K) (r := r1) (n := h1.next) (u := .ins (ca c.K cn) dx []) (.inl nx'))
      have S2 : Sim c.K (rn r1 h1.next x) (h1.new (.ins cn [])) (upd (upd H1 dx (.own x)) x (.ins (ca c.K cn) dx [])) := (S1.grow ndx).new nx' rfl ⟨dx, [], upd_same, rfl, .nil⟩
      have xx := xa.trans xb
      have ev0 : V.ref x = .ref (rn r1 h1.next x h1.next) := by rw [rn_at]
      rcases bnd_cases e1 with ⟨d, h2, e2, e3⟩ | ⟨kk, e2, e3⟩
      · refine k.sp f _ _ _ h2 e2 _ _ _ _ _ S2 (.cons (by rw [ev0]; exact .ref (Nat.lt_succ_self _)) (q1.ext xx)) ?_
        intro v r3 H3 S3 x3 q3
        cases q3 with
        | non =>
          cases e3
          refine ⟨rfl, p1 (.ref x) r3 H3 S3 (xx.trans x3) ?_⟩
          rw [ev0, ← x3.at_ h1.next (Nat.lt_succ_self _)]
          exact .ref (Nat.lt_of_lt_of_le (Nat.lt_succ_self _) x3.le)
        | _ => cases e3
      · subst e3
        refine k.sp f _ _ _ h' e2 _ _ _ _ _ S2 (.cons (by rw [ev0]; exact .ref (Nat.lt_succ_self _)) (q1.ext xx)) ?_
        exact fun r3 H3 S3 x3 => p1 r3 H3 S3 (xx.trans x3)
    · cases e1
  | .bi b es => by
    intro c k env h res h' e r σ H Q S en p
    simp only [ev] at e
    exact s1A (sA cl es) k e S en p fun x h1 v r1 H1 e1 S1 x1 q1 en1 p1 => s_bi S1 q1 e1 p1
  | .bm b o es => by
    intro c k env h res h' e r σ H Q S en p
    simp only [ev] at e
    refine s1 (sE cl o) k e S en p fun x h1 v r1 H1 e1 S1 x1 q1 en1 p1 => ?_
    split at e1
    · rename_i hr
      exact ⟨s_rcv S1 q1 hr, s1A (sA cl es) k e1 S1 en1 p1 fun vs h2 us r2 H2 e2 S2 x2 q2 en2 p2 => s_bm S2 (q1.ext x2) q2 e2 p2⟩
    · cases e1
  | .gix x a => by
    intro c k env h res h' e r σ H Q S en p
    simp only [ev] at e
    split at e
    · rename_i xs hx
      refine ⟨k.gt x xs hx H, ?_⟩
      refine s1 (sE cl a) k e S en p fun y h1 v r1 H1 e1 S1 x1 q1 en1 p1 => ?_
      unfold gixD at e1
      split at e1
      · rename_i ys z ey
        cases ey
        split at e1
        · rename_i zs hz
          split at e1
          · rename_i j hj
            cases e1
            cases q1
            have qg := k.gv x _ hx r1 h'.next H1
            generalize hgv : c.gv x = gvx at qg
            cases qg with
            | @tup pp vs ds hT q2 =>
              rw [q2.strs hz] at hT
              obtain ⟨f1, f2, f3⟩ := List.findIdx?_eq_some_iff_getElem.mp hj
              refine ⟨pp, zs, z, j, rfl, rfl, hT, ?_, fun m hm => ?_, s_plain S1 (.int _) p1⟩
              · rw [List.getElem?_eq_getElem f1]
                exact congrArg some (of_decide_eq_true f2)
              · intro hh
                have hml : m < zs.length := by omega
                have := f3 m hm
                rw [List.getElem?_eq_getElem hml] at hh
                simp only [Option.some.injEq] at hh
                simp [hh] at this
          · cases e1
        · cases e1
      · cases e1
    · cases e
  | .isi a t => by
    intro c k env h res h' e r σ H Q S en p
    simp only [ev] at e
    refine s1 (sE cl a) k e S en p fun x h1 v r1 H1 e1 S1 x1 q1 en1 p1 => ?_
    obtain ⟨d, e3, e4, e5⟩ := liftO_cases e1
    obtain ⟨n, e6, e7⟩ := Option.map_eq_some_iff.mp e3
    subst e4 e5 e7
    obtain ⟨t1, t2⟩ := ty_of S1 q1 e6
    exact ⟨v, .ty t.nm, _, .type t.nm, isTn n t, rfl, .ty _, t1, kit_ty (kitAll n t.nm t2 (nm_mem t)), s_plain S1 (.bl _) p1⟩
  | .isi2 a t u => by
    intro c k env h res h' e r σ H Q S en p
    simp only [ev] at e
    refine s1 (sE cl a) k e S en p fun x h1 v r1 H1 e1 S1 x1 q1 en1 p1 => ?_
    obtain ⟨d, e3, e4, e5⟩ := liftO_cases e1
    obtain ⟨n, e6, e7⟩ := Option.map_eq_some_iff.mp e3
    subst e4 e5 e7
    refine ⟨by show 2 ≤ sizeLine; rw [sizeLine_eq]; decide, fun q nq => ?_⟩
    have xq := (Free.ext (K := c.K) (r := r1) (n := h'.next) (u := .tup [.ty t.nm, .ty u.nm]) (.inl nq))
    have S2 := S1.grow (u := .tup [.ty t.nm, .ty u.nm]) nq
    obtain ⟨t1, t2⟩ := ty_of S2 (q1.ext xq) e6
    show rIsiT c.K [v, .ref q] _ Q
    refine ⟨v, q, _, _, [.type t.nm, .type u.nm], isTn n t || isTn n u, rfl, upd_same, .cons (.ty _) (.cons (.ty _) .nil), t1, ?_, p1 _ r1 _ S2 xq (.bl _)⟩
    refine kitAny_cons (kit_ty (kitAll n t.nm t2 (nm_mem t))) (fun h1 => kitAny_cons (kit_ty (kitAll n u.nm t2 (nm_mem u))) (fun h2 => ?_) fun h2 => ?_) fun h1 => ?_
    · rw [kitAny_nil]
      unfold isTn
      rw [h1, h2]
      rfl
    · unfold isTn
      rw [h1, h2]
      rfl
    · unfold isTn
      rw [h1]
      rfl
  | .comp elt own g kk es tst => by
    intro c k env h res h' e r σ H Q S en p
    simp only [ev] at e
    refine s1A (sA cl es) k e S en p fun ds h1 vs r1 H1 e1 S1 x1 q1 en1 p1 => ?_
    split at e1
    · rename_i items gd hw
      split at e1
      · rename_i hg
        refine s_walk S1 q1 hw fun J G => ?_
        intro a ha
        have xn := (Free.extN (K := c.K) (r := r1) (n := h1.next) (u := .lst []) (.inl ha))
        have S2 : Sim c.K (rn r1 h1.next a) (h1.new (.lst [])) (upd H1 a (.lst [])) := S1.new ha rfl ⟨[], upd_same, .nil⟩
        have hg2 : ∀ i ∈ g.is, i ∈ own := by
          cases g with
          | name i =>
            intro j hj
            cases List.mem_singleton.mp hj
            exact List.contains_iff_mem.mp hg
          | tup is => exact fun j hj => List.contains_iff_mem.mp (List.all_eq_true.mp hg j hj)
        have key := s_comp (sE cl elt) (sT cl tst) k G hg2 S2 xn (Nat.lt_succ_self _) (en1.ext xn) e1 (p1.later xn)
        rw [rn_at] at key
        exact key
      · cases e1
    · cases e1
  | .cpx elt own g kk es tst => by
    intro c k env h res h' e r σ H Q S en p
    simp only [ev] at e
    refine s1A (sA cl es) k e S en p fun ds h1 vs r1 H1 e1 S1 x1 q1 en1 p1 => ?_
    split at e1
    · rename_i items gd hw
      split at e1
      · rename_i hg
        refine s_walk S1 q1 hw fun J G => ?_
        intro a ha
        have xn := (Free.extN (K := c.K) (r := r1) (n := h1.next) (u := .lst []) (.inl ha))
        have S2 : Sim c.K (rn r1 h1.next a) (h1.new (.lst [])) (upd H1 a (.lst [])) := S1.new ha rfl ⟨[], upd_same, .nil⟩
        have hg2 : ∀ i ∈ g.is, i ∈ own := by
          cases g with
          | name i =>
            intro j hj
            cases List.mem_singleton.mp hj
            exact List.contains_iff_mem.mp hg
          | tup is => exact fun j hj => List.contains_iff_mem.mp (List.all_eq_true.mp hg j hj)
        have key := s_compX (sE cl elt) (sT cl tst) k G hg2 S2 xn (Nat.lt_succ_self _) (en1.ext xn) e1 (p1.later xn)
        rw [rn_at] at key
        exact key
      · cases e1
    · cases e1
  | .fst es => by
    intro c k env h res h' e r σ H Q S en p
    simp only [ev] at e
    exact sJ cl es c k env h res h' Str.empty e r σ H Q S en p
  | .fmt a => by
    intro c k env h res h' e r σ H Q S en p
    simp only [ev] at e
    refine s1 (sE cl a) k e S en p fun x h1 v r1 H1 e1 S1 x1 q1 en1 p1 => ?_
    split at e1
    · rename_i y
      split at e1
      · rename_i hl
        cases e1
        cases q1
        exact .inl ⟨y, rfl, lim_le hl, s_plain S1 (.str _) p1⟩
      · cases e1
    · rename_i i
      split at e1
      · rename_i hl
        cases e1
        cases q1
        exact .inr ⟨i, rfl, Nat.lt_of_lt_of_le (PySem.Flt.log2_lt_of (show 0 < 250 by decide) (natAbs_big hl)) (by decide), s_plain S1 (.str _) p1⟩
      · cases e1
    · cases e1
  | .rsl a => by
    intro c k env h res h' e r σ H Q S en p
    simp only [ev] at e
    refine s1 (sE cl a) k e S en p fun x h1 v r1 H1 e1 S1 x1 q1 en1 p1 => ?_
    split at e1
    · rename_i xs hx
      cases e1
      obtain ⟨pp, us, ev, e2, e3⟩ := lstOf_of S1 q1 hx
      subst ev
      exact ⟨pp, us, rfl, e2, s_newlist S1 (RepL.rev e3) p1⟩
    · cases e1
  | .dictT => by
    intro c k env h res h' e r σ H Q S en p
    simp only [ev] at e
    cases e
    intro a ha
    have x1 := (Free.extN (K := c.K) (r := r) (n := h.next) (u := .dT []) (.inl ha))
    have S1 : Sim c.K (rn r h.next a) (h.new (.dit [])) (upd H a (.dT [])) := S.new ha rfl ⟨[], upd_same, rfl, .nil⟩
    have q := p (.ref (rn r h.next a h.next)) _ _ S1 x1 (.ref (Nat.lt_succ_self _))
    rw [rn_at] at q
    exact q
  | .dgtT a es => by
    intro c k env h res h' e r σ H Q S en p
    simp only [ev] at e
    refine s1 (sE cl a) k e S en p fun x h1 v r1 H1 e1 S1 x1 q1 en1 p1 => s1A (sA cl es) k e1 S1 en1 p1 fun ks h2 us r2 H2 e2 S2 x2 q2 en2 p2 => ?_
    have q1' := q1.ext x2
    cases q1' with
    | @ref a la =>
      simp only at e2
      split at e2
      · rename_i hl
        split at e2
        · rename_i d hd
          cases e2
          refine ⟨by rw [q2.len]; exact lim_le hl, fun q nq => ?_⟩
          have xq := (Free.ext (K := c.K) (r := r2) (n := h'.next) (u := .tup us) (.inl nq))
          have S3 := S2.grow (u := .tup us) nq
          obtain ⟨u, g, g1, _⟩ := dgetT_of S3 (q2.ext xq) hd (b := q) upd_same
          obtain ⟨z, ez, qz⟩ := g1 _ rfl
          subst ez
          exact ⟨_, z, rfl, g, p2 z r2 _ S3 xq qz⟩
        · cases e2
      · cases e2
    | _ => cases e2
  | .getT a es d => by
    intro c k env h res h' e r σ H Q S en p
    simp only [ev] at e
    refine s1 (sE cl a) k e S en p fun x h1 v r1 H1 e1 S1 x1 q1 en1 p1 => ?_
    cases q1 with
    | @ref a la =>
      simp only at e1
      split at e1
      · rename_i o0 h0
        refine ⟨_, rfl, isD_of S1 h0, ?_⟩
        refine s1A (sA cl es) k e1 S1 en1 p1 fun ks h2 us r2 H2 e2 S2 x2 q2 en2 p2 => ?_
        have er : r2 a = r1 a := x2.at_ a la
        split at e2
        · rename_i hl
          split at e2
          · rename_i d hd
            cases e2
            refine ⟨by rw [q2.len]; exact lim_le hl, fun q nq => ?_⟩
            have xq := (Free.ext (K := c.K) (r := r2) (n := h'.next) (u := .tup us) (.inl nq))
            have S3 := S2.grow (u := .tup us) nq
            obtain ⟨u, g, g1, _⟩ := dgetT_of S3 (q2.ext xq) hd (b := q) upd_same
            obtain ⟨z, ez, qz⟩ := g1 _ rfl
            subst ez
            rw [er] at g
            exact ⟨_, g, p2 z r2 _ S3 xq qz⟩
          · rename_i hd
            cases e2
            refine ⟨by rw [q2.len]; exact lim_le hl, fun q nq => ?_⟩
            have xq := (Free.ext (K := c.K) (r := r2) (n := h'.next) (u := .tup us) (.inl nq))
            have S3 := S2.grow (u := .tup us) nq
            obtain ⟨u, g, _, g2⟩ := dgetT_of S3 (q2.ext xq) hd (b := q) upd_same
            rw [g2 rfl, er] at g
            exact ⟨_, g, p2 _ r2 _ S3 xq (repCst _ _ _ _ d)⟩
          · cases e2
        · cases e2
      · cases e1
    | _ => cases e1
  | .lck i a => by
    intro c k env h res h' e r σ H Q S en p
    simp only [ev] at e
    split at e
    · rename_i a0 ha0
      split at e
      · rename_i o ho
        split at e
        · rename_i o' hl
          obtain ⟨x, h2, e1, e2⟩ := bndN_cases e
          split at e2
          · rename_i hf
            cases e2
            obtain ⟨u, h1, m, L⟩ := S.lock ho hl
            refine ⟨r a0, u, h1, (dct_mut m).2, fun od => ?_⟩
            obtain ⟨S1, L2⟩ := L od
            have f : Free H (r a0) := S.free ho (by cases o <;> first | rfl | cases hl)
            refine sE cl a c k env _ _ h2 e1 r σ _ _ S1 (en.ext f.ext) ?_
            intro v r2 H2 S2 x2 q2
            obtain ⟨er, hd, S3, x3, x4⟩ := L2 r2 h2 H2 S2 x2 hf
            exact ⟨hd, p v r2 _ S3 x3 (q2.ext0 x4)⟩
          · cases e2
        · cases e
      · cases e
    · cases e
  | .isx i cm => by
    intro c k env h res h' e r σ H Q S en p
    simp only [ev] at e
    split at e
    · rename_i kk a he
      split at e
      · rename_i hx
        obtain ⟨d, e3, e4, e5⟩ := liftO_cases e
        obtain ⟨b, e6, e7⟩ := Option.map_eq_some_iff.mp e3
        subst e4 e5 e7
        obtain ⟨x1, x2, x3⟩ := k.xk _ _ hx
        obtain ⟨C, ko⟩ := k.exs _ _ _ e6
        obtain ⟨v, hv, rv⟩ := en.at_ _ _ he
        cases rv
        exact ⟨_, x2, x3, C, by rw [x1]; exact hv, b, ko, s_plain S (.bl _) p⟩
      · cases e
    · cases e
  | .isxB i cm => by
    intro c k env h res h' e r σ H Q S en p
    simp only [ev] at e
    split at e
    · rename_i kk a he
      split at e
      · rename_i hx
        obtain ⟨d, e3, e4, e5⟩ := liftO_cases e
        obtain ⟨b, e6, e7⟩ := Option.map_eq_some_iff.mp e3
        subst e4 e5 e7
        obtain ⟨x1, x2, x3⟩ := k.xk _ _ hx
        obtain ⟨C, ko⟩ := k.exb _ _ _ e6
        obtain ⟨v, hv, rv⟩ := en.at_ _ _ he
        cases rv
        exact ⟨_, x2, x3, C, by rw [x1]; exact hv, b, ko, s_plain S (.bl _) p⟩
      · cases e
    · cases e
  | .lrg a => by
    intro c k env h res h' e r σ H Q S en p
    simp only [ev] at e
    refine s1 (sE cl a) k e S en p fun x h1 v r1 H1 e1 S1 x1 q1 en1 p1 => ?_
    split at e1
    · rename_i n
      split at e1
      · rename_i hn
        cases e1
        cases q1
        refine ⟨n, rfl, RgOk.of_le (by omega) (by omega) (by omega) (by omega), ?_⟩
        have eq : rgV 0 n = (List.range n.toNat).map fun (i : Nat) => V.int (i : Int) := by
          unfold rgV
          simp
        rw [eq]
        refine s_newlist S1 ?_ p1
        have := repInts (K := c.K) (r := r1) (n := h1.next) (H := H1) ((List.range n.toNat).map fun (i : Nat) => (i : Int))
        simpa only [List.map_map, Function.comp_def] using this
      · cases e1
    · cases e1
  | .iso a cm => by
    intro c k env h res h' e r σ H Q S en p
    simp only [ev] at e
    refine s1 (sE cl a) k e S en p fun x h1 v r1 H1 e1 S1 x1 q1 en1 p1 => ?_
    split at e1
    · rename_i kk
      obtain ⟨d, e3, e4, e5⟩ := liftO_cases e1
      obtain ⟨b, e6, e7⟩ := Option.map_eq_some_iff.mp e3
      subst e4 e5 e7
      obtain ⟨C, ko⟩ := k.exs _ _ _ e6
      cases q1 with
      | xob k1 ha hz hf => exact ⟨_, _, _, _, _, b, rfl, ha, hz, hf, C, (fun u ru => by cases ru; rfl), ko, s_plain S1 (.bl _) p1⟩
    · cases e1
  | .isoB a cm => by
    intro c k env h res h' e r σ H Q S en p
    simp only [ev] at e
    refine s1 (sE cl a) k e S en p fun x h1 v r1 H1 e1 S1 x1 q1 en1 p1 => ?_
    split at e1
    · rename_i kk
      obtain ⟨d, e3, e4, e5⟩ := liftO_cases e1
      obtain ⟨b, e6, e7⟩ := Option.map_eq_some_iff.mp e3
      subst e4 e5 e7
      obtain ⟨C, ko⟩ := k.exb _ _ _ e6
      cases q1 with
      | xob k1 ha hz hf => exact ⟨_, _, _, _, _, b, rfl, ha, hz, hf, C, (fun u ru => ru), ko, s_plain S1 (.bl _) p1⟩
    · cases e1
  | .isc a cm => by
    intro c k env h res h' e r σ H Q S en p
    simp only [ev] at e
    refine s1 (sE cl a) k e S en p fun x h1 v r1 H1 e1 S1 x1 q1 en1 p1 => ?_
    split at e1
    · rename_i pp
      split at e1
      · rename_i c1 fs hp
        obtain ⟨d, e3, e4, e5⟩ := liftO_cases e1
        obtain ⟨b, e6, e7⟩ := Option.map_eq_some_iff.mp e3
        subst e4 e5 e7
        have J := k.sub _ _ _ e6
        cases q1 with
        | @ref _ lp =>
          obtain ⟨dx, ws, ho, _⟩ := (S1.obj pp _ hp).2
          exact ⟨_, .ref (ca c.K cm), _, .ref (ca c.K cm), b, rfl, .own _, .base (.ins ho J.cl J.ha J.hn J.htk J.hm), J.one, s_plain S1 (.bl _) p1⟩
      · cases e1
    · cases e1
  | .new0 cn => by
    intro c k env h res h' e r σ H Q S en p
    simp only [ev] at e
    cases e
    intro x dx nx ndx ne
    have nx' : upd H dx (.own x) x = none := by rw [upd_ne ne.symm]; exact nx
    have xa := (Free.ext (K := c.K) (r := r) (n := h.next) (u := .own x) (.inl ndx))
    have xb := (Free.extN (K := c.K) (r := r) (n := h.next) (u := .ins (ca c.K cn) dx []) (.inl nx'))
    have S2 : Sim c.K (rn r h.next x) (h.new (.ins cn [])) (upd (upd H dx (.own x)) x (.ins (ca c.K cn) dx [])) := (S.grow ndx).new nx' rfl ⟨dx, [], upd_same, rfl, .nil⟩
    have q := p (.ref (rn r h.next x h.next)) _ _ S2 (xa.trans xb) (.ref (Nat.lt_succ_self _))
    rw [rn_at] at q
    exact q
theorem sA (cl : Cl) : ∀ e : Es, SA cl e
  | .nil => by
    intro c k env h res h' e r σ H Q S en p
    simp only [evs] at e
    cases e
    exact p [] r H S Ext.refl .nil
  | .cons a es => by
    intro c k env h res h' e r σ H Q S en p
    simp only [evs] at e
    refine s1 (sE cl a) k e S en p fun x h1 v r1 H1 e1 S1 x1 q1 en1 p1 => s1A (sA cl es) k e1 S1 en1 p1 fun xs h2 vs r2 H2 e2 S2 x2 q2 en2 p2 => ?_
    cases e2
    exact p2 _ r2 H2 S2 Ext.refl (.cons (q1.ext x2) q2)
theorem sO (cl : Cl) : ∀ e : Eo, SO cl e
  | .none => by
    intro c k env h res h' e r σ H Q S en p
    simp only [evO] at e
    cases e
    exact p none r H S Ext.refl rfl
  | .some a => by
    intro c k env h res h' e r σ H Q S en p
    simp only [evO] at e
    refine s1 (sE cl a) k e S en p fun x h1 v r1 H1 e1 S1 x1 q1 en1 p1 => ?_
    cases q1 with
    | int i => cases e1; exact ⟨i, rfl, p1 _ r1 H1 S1 Ext.refl rfl⟩
    | _ => cases e1
theorem sT (cl : Cl) : ∀ e : T, ST cl e
  | .yes => by
    intro c k env h res h' e r σ H Q S en p
    simp only [evT] at e
    cases e
    exact p true r H S Ext.refl rfl
  | .cmp o a b => by
    intro c k env h res h' e r σ H Q S en p
    simp only [evT] at e
    refine s1 (sE cl a) k e S en p fun x h1 v r1 H1 e1 S1 x1 q1 en1 p1 => s1 (sE cl b) k e1 S1 en1 p1 fun y h2 w r2 H2 e2 S2 x2 q2 en2 p2 => ?_
    obtain ⟨d, e3, e4, e5⟩ := liftO_cases e2
    subst e4 e5
    exact s_cmp S2 (q1.ext x2) q2 e3 ⟨d, rfl, p2 d r2 H2 S2 Ext.refl rfl⟩
  | .chn o o' a b d => by
    intro c k env h res h' e r σ H Q S en p
    simp only [evT] at e
    refine s1 (sE cl a) k e S en p fun x h1 v r1 H1 e1 S1 x1 q1 en1 p1 => s1 (sE cl b) k e1 S1 en1 p1 fun y h2 w r2 H2 e2 S2 x2 q2 en2 p2 => ?_
    split at e2
    · rename_i hc
      refine s_cmp S2 (q1.ext x2) q2 hc ⟨true, rfl, ?_⟩
      rw [if_pos rfl]
      refine s1 (sE cl d) k e2 S2 en2 p2 fun z h3 u r3 H3 e3 S3 x3 q3 en3 p3 => ?_
      obtain ⟨d, e4, e5, e6⟩ := liftO_cases e3
      subst e5 e6
      exact s_cmp S3 (q2.ext x3) q3 e4 ⟨d, rfl, p3 d r3 H3 S3 Ext.refl rfl⟩
    · rename_i hc
      cases e2
      refine s_cmp S2 (q1.ext x2) q2 hc ⟨false, rfl, ?_⟩
      rw [if_neg Bool.false_ne_true]
      exact ⟨false, rfl, p2 false r2 H2 S2 Ext.refl rfl⟩
    · cases e2
  | .and a b => by
    intro c k env h res h' e r σ H Q S en p
    simp only [evT] at e
    refine s1T (sT cl a) k e S en p fun x h1 r1 H1 e1 S1 x1 en1 p1 => ?_
    cases x with
    | true => rw [if_pos rfl] at e1 ⊢; exact sT cl b c k env h1 _ h' e1 r1 σ H1 Q S1 en1 p1
    | false =>
      rw [if_neg Bool.false_ne_true] at e1 ⊢
      cases e1
      exact p1 _ r1 H1 S1 Ext.refl rfl
  | .or a b => by
    intro c k env h res h' e r σ H Q S en p
    simp only [evT] at e
    refine s1T (sT cl a) k e S en p fun x h1 r1 H1 e1 S1 x1 en1 p1 => ?_
    cases x with
    | true =>
      rw [if_pos rfl] at e1 ⊢
      cases e1
      exact p1 _ r1 H1 S1 Ext.refl rfl
    | false => rw [if_neg Bool.false_ne_true] at e1 ⊢; exact sT cl b c k env h1 _ h' e1 r1 σ H1 Q S1 en1 p1
  | .not a => by
    intro c k env h res h' e r σ H Q S en p
    simp only [evT] at e
    refine s1T (sT cl a) k e S en p fun x h1 r1 H1 e1 S1 x1 en1 p1 => ?_
    cases e1
    exact p1 _ r1 H1 S1 Ext.refl rfl
  | .tru a => by
    intro c k env h res h' e r σ H Q S en p
    simp only [evT] at e
    refine s1 (sE cl a) k e S en p fun x h1 v r1 H1 e1 S1 x1 q1 en1 p1 => ?_
    obtain ⟨d, e3, e4, e5⟩ := liftO_cases e1
    subst e4 e5
    exact ⟨d, s_tru S1 q1 e3, p1 d r1 H1 S1 Ext.refl rfl⟩
end
end Z

set_option maxRecDepth 100000
set_option maxHeartbeats 2000000
namespace Z
open PySem L2

def gSeq (K : PySem.W.Frag) (is : List Nat) : TG := fun v σ H Q => gTup K is.length (gsR is) v σ H Q ∨ gLst K is.length (gsR is) v σ H Q
def rGetL : V → V → Hp → VK → Prop := fun o i H Q => ∃ (p : Addr) (xs : List V) (k : Int) (v : V), o = .ref p ∧ i = .int k ∧ 0 ≤ k ∧ H p = some (.lst xs) ∧ xs[k.toNat]? = some v ∧ Q v H
def rAug : Bop → V → V → Hp → VK → Prop
  | .add => fun x y H Q => ∃ i j, x = .int i ∧ y = .int j ∧ Q (.int (i + j)) H
  | .sub => fun x y H Q => ∃ i j, x = .int i ∧ y = .int j ∧ Q (.int (i - j)) H
  | _ => fun _ _ _ _ => False
def rdS (c : RC) : S → TS
  | .skip => tNext
  | .seq a b => tSeq (rdS c a) (rdS c b)
  | .asg i e => tAsg (rdE c e) (gName i)
  | .unp is e => tAsg (rdE c e) (gSeq c.K is)
  | .sfld o f e => sFld c.K (rdE c o) (rdE c e) (Str.ofString f)
  | .sidx o i e => tAsg (rdE c e) (gSub (rdE c o) (rdE c i) rSetL)
  | .dput o i e => sDPut (rdE c o) (rdE c i) (rdE c e)
  | .aug i o e => tAug i (rdE c e) (rAug o)
  | .augf o f op e => sFldAug c.K (rdE c o) (rdE c e) (rAug op) (Str.ofString f)
  | .augi o i op e => tAugS (rdE c o) (rdE c i) (rdE c e) rGetL (rAug op) rSetL
  | .ite t a b => tIfS (rdT c t) (rdS c a) (rdS c b)
  | .for_ g k es body => tFor (rdI c.K k (rdA c es)) (rdG c.K g) (rdS c body)
  | .wh t body => tWhile (rdT c t) (rdS c body)
  | .ret e => tRet (rdE c e)
  | .drop e => tDrop (rdE c e)
  | .rai cn => fun _ σ H => c.W (.ref (ca c.K cn)) none σ H
  | .try_ b cn x s => (match x with
    | none => fun D σ H => rdS (c.with (wOnly c.K (.ref (ca c.K cn)) (fun _ _ _ => rdS (c.with noW) s) c.W D)) b D σ H
    | some i => fun D σ H => rdS (c.with (wAs c.K (.ref (ca c.K cn)) i (fun a cls d D σ H => ∃ k, cls = .ref (ca c.K k) ∧ rdS (c.exc k a cls d) s D σ H) c.W D)) b D σ H)
  | .tryK b cn i j => fun D σ H => rdS (c.with (Kept.wish c.K (.ref (ca c.K cn)) i (fun _ => tAsg (tVar i) (gName j)) D)) b D σ H
  | .dputT o es e => sDPut (rdE c o) (tTup (rdA c es)) (rdE c e)
  | .lck _ s => tLock (rdS c s)
  | .par i j es => tPar i j (rdA c es)

def PS' (c : RC) (r : Rho) (h : Hm) (H : Hp) (D : Ends) (env' : Env) (h' : Hm) : Fl → Prop
  | .nx => ∀ σ' r' H', Sim c.K r' h' H' → Ext c.K r h.next H r' h'.next H' → EnvR c.K r' h'.next H' σ' env' → D.nx σ' H'
  | .rt d => ∀ v r' H', Sim c.K r' h' H' → Ext c.K r h.next H r' h'.next H' → RepV c.K r' h'.next H' v d → D.rt v H'
  | .ex k => ∀ σ' r' H', Sim c.K r' h' H' → Ext c.K r h.next H r' h'.next H' → EnvR c.K r' h'.next H' σ' env' → c.W (.ref (ca c.K k)) none σ' H'
section
variable {cl : Cl} {c : RC} {env env' : Env} {h h' h1 : Hm} {r r1 : Rho} {σ : L2.St} {H H1 : Hp} {D : Ends} {fl : Fl}
theorem PS'.later (p : PS' c r h H D env' h' fl) (e : Ext c.K r h.next H r1 h1.next H1) : PS' c r1 h1 H1 D env' h' fl := by
  cases fl with
  | nx => exact fun σ' r' H' S x q => p σ' r' H' S (e.trans x) q
  | rt d => exact fun v r' H' S x q => p v r' H' S (e.trans x) q
  | ex k => exact fun σ' r' H' S x q => p σ' r' H' S (e.trans x) q
def SS (cl : Cl) (s : Z.S) : Prop := ∀ (c : RC), RCok c cl → ∀ env h fl env' h', ex c.P cl s env h = some (fl, env', h') → ∀ r σ H D, Sim c.K r h H → EnvR c.K r h.next H σ env → PS' c r h H D env' h' fl → rdS c s D σ H
theorem toS_cases {α : Type} {m : Res α} {f : α → Hm → Out} (e : toS m env f = some (fl, env', h')) : (∃ x h1, m = some (.ok x, h1) ∧ f x h1 = some (fl, env', h')) ∨ ∃ k, m = some (.error k, h') ∧ fl = .ex k ∧ env' = env := by
  match m, e with
  | some (.ok x, h1), e => exact .inl ⟨x, h1, rfl, e⟩
  | some (.error k, h1), e => cases e; exact .inr ⟨k, rfl, rfl, rfl⟩
theorem t1 {a : E} (k : RCok c cl) {f : Z.D → Hm → Out} (e : toS (ev c.P cl a env h) env f = some (fl, env', h')) (S : Sim c.K r h H) (en : EnvR c.K r h.next H σ env) (p : PS' c r h H D env' h' fl) {Q : VK}
    (w : ∀ x h1 v r1 H1, f x h1 = some (fl, env', h') → Sim c.K r1 h1 H1 → Ext c.K r h.next H r1 h1.next H1 → RepV c.K r1 h1.next H1 v x → EnvR c.K r1 h1.next H1 σ env → PS' c r1 h1 H1 D env' h' fl → Q v H1) : rdE c a σ H Q := by
  rcases toS_cases e with ⟨x, h1, e1, e2⟩ | ⟨kk, e1, e2, e3⟩
  · exact sE cl a c k env h _ h1 e1 r σ H Q S en fun v r1 H1 S1 x1 q1 => w x h1 v r1 H1 e2 S1 x1 q1 (en.ext x1) (p.later x1)
  · subst e2 e3
    exact sE cl a c k env' h _ h' e1 r σ H Q S en fun r' H' S' x' => p σ r' H' S' x' (en.ext x')
theorem t1T {a : T} (k : RCok c cl) {f : Bool → Hm → Out} (e : toS (evT c.P cl a env h) env f = some (fl, env', h')) (S : Sim c.K r h H) (en : EnvR c.K r h.next H σ env) (p : PS' c r h H D env' h' fl) {Q : Bool → Hp → Prop}
    (w : ∀ x h1 r1 H1, f x h1 = some (fl, env', h') → Sim c.K r1 h1 H1 → Ext c.K r h.next H r1 h1.next H1 → EnvR c.K r1 h1.next H1 σ env → PS' c r1 h1 H1 D env' h' fl → Q x H1) : rdT c a σ H Q := by
  rcases toS_cases e with ⟨x, h1, e1, e2⟩ | ⟨kk, e1, e2, e3⟩
  · refine sT cl a c k env h _ h1 e1 r σ H Q S en fun v r1 H1 S1 x1 q1 => ?_
    subst q1
    exact w v h1 r1 H1 e2 S1 x1 (en.ext x1) (p.later x1)
  · subst e2 e3
    exact sT cl a c k env' h _ h' e1 r σ H Q S en fun r' H' S' x' => p σ r' H' S' x' (en.ext x')
theorem t1A {a : Es} (k : RCok c cl) {f : List Z.D → Hm → Out} (e : toS (evs c.P cl a env h) env f = some (fl, env', h')) (S : Sim c.K r h H) (en : EnvR c.K r h.next H σ env) (p : PS' c r h H D env' h' fl) {Q : List V → Hp → Prop}
    (w : ∀ x h1 v r1 H1, f x h1 = some (fl, env', h') → Sim c.K r1 h1 H1 → Ext c.K r h.next H r1 h1.next H1 → RepL c.K r1 h1.next H1 v x → EnvR c.K r1 h1.next H1 σ env → PS' c r1 h1 H1 D env' h' fl → Q v H1) : rdA c a σ H Q := by
  rcases toS_cases e with ⟨x, h1, e1, e2⟩ | ⟨kk, e1, e2, e3⟩
  · exact sA cl a c k env h _ h1 e1 r σ H Q S en fun v r1 H1 S1 x1 q1 => w x h1 v r1 H1 e2 S1 x1 q1 (en.ext x1) (p.later x1)
  · subst e2 e3
    exact sA cl a c k env' h _ h' e1 r σ H Q S en fun r' H' S' x' => p σ r' H' S' x' (en.ext x')
theorem s_aug {o : Bop} {x y z : Z.D} {v w : V} {n : Nat} {Q : VK} (e : augD o x y = some z) (qx : RepV c.K r n H v x) (qy : RepV c.K r n H w y) (p : ∀ u, RepV c.K r n H u z → Q u H) : rAug o v w H Q := by
  cases qx with
  | int i =>
    cases qy with
    | int j => cases o <;> first | (cases e; exact ⟨i, j, rfl, rfl, p _ (.int _)⟩) | cases e
    | _ => cases o <;> cases e
  | _ => cases qy <;> cases o <;> cases e
theorem s_for {body : Z.S} {g : Tg} {gd : List (Nat × O)} {items : List Z.D} (hB : SS cl body) (k : RCok c cl) {J : It} {n1 : Nat} (G : Gives c.K J items gd r1 n1 H1) {r0 : Rho} {h0 : Hm} {H0 : Hp} {env0 : Env} {σ0 : L2.St} (S0 : Sim c.K r0 h0 H0)
    (x0 : Ext c.K r1 n1 H1 r0 h0.next H0) (en : EnvR c.K r0 h0.next H0 σ0 env0) (e : forL (fun e1 h2 => ex c.P cl body e1 h2) g gd items env0 h0 = some (fl, env', h')) (p : PS' c r0 h0 H0 D env' h' fl) :
    ∃ W : Nat → Nat → L2.St → Hp → Prop, (∃ m, W 0 m σ0 H0) ∧ ∀ i m σ H, W i m σ H → (J.stop i H ∧ D.nx σ H) ∨ (J.go i H ∧ ∃ N : L2.St → Hp → Prop, (∀ σ' H', N σ' H' → ∃ m', m' < m ∧ W (i + 1) m' σ' H') ∧
      ∀ x H', J.yld i H x H' → rdG c.K g x σ H' fun σ2 H2 => rdS c body { D with nx := N, ct := N, bk := D.nx } σ2 H2) := by
  refine ⟨fun i m σ H => m = items.length - i ∧ i ≤ items.length ∧ ∃ r h env, Sim c.K r h H ∧ Ext c.K r0 h0.next H0 r h.next H ∧ EnvR c.K r h.next H σ env ∧
    forL (fun e1 h2 => ex c.P cl body e1 h2) g gd (items.drop i) env h = some (fl, env', h'), ⟨_, rfl, Nat.zero_le _, r0, h0, env0, S0, Ext.refl, en, e⟩, ?_⟩
  rintro i m σ H ⟨rfl, hi, r, h, env, S, x, en, e⟩
  cases hd : items[i]? with
  | none =>
    have hl : items.length ≤ i := List.getElem?_eq_none_iff.mp hd
    rw [List.drop_of_length_le hl] at e
    unfold forL at e
    split at e
    · rename_i st
      cases e
      exact .inl ⟨((G r _ H S (x0.trans x) st i).2 hl), p σ r H S x en⟩
    · cases e
  | some d =>
    have hil : i < items.length := (List.getElem?_eq_some_iff.mp hd).1
    have ed : items.drop i = d :: items.drop (i + 1) := by
      rw [List.drop_eq_getElem_cons hil]
      congr 1
      rw [List.getElem?_eq_getElem hil] at hd
      exact Option.some.inj hd
    rw [ed] at e
    unfold forL at e
    split at e
    · rename_i st
      obtain ⟨g1, g2⟩ := (G r h H S (x0.trans x) st i).1 d hd
      refine .inr ⟨g1, fun σ' H' => ∃ r h env, Sim c.K r h H' ∧ Ext c.K r0 h0.next H0 r h.next H' ∧ EnvR c.K r h.next H' σ' env ∧
        forL (fun e1 h2 => ex c.P cl body e1 h2) g gd (items.drop (i + 1)) env h = some (fl, env', h'), ?_, ?_⟩
      · rintro σ' H' ⟨r2, h2, env2, S2, x2, en2, e2⟩
        exact ⟨_, by omega, rfl, hil, r2, h2, env2, S2, x2, en2, e2⟩
      · intro y H' yl
        obtain ⟨S', x', q'⟩ := g2 y H' yl
        split at e
        · cases e
        · rename_i env1 he1
          refine s_g q' (en.ext x') he1 fun σ2 en2 _ => ?_
          have xx := x.trans x'
          cases hx : ex c.P cl body env1 h with
          | none => rw [hx] at e; cases e
          | some o =>
            obtain ⟨fl2, env2, h2⟩ := o
            rw [hx] at e
            refine hB c k env1 h fl2 env2 h2 hx r σ2 H' _ S' en2 ?_
            cases fl2 with
            | nx => exact fun σ3 r3 H3 S3 x3 en3 => ⟨r3, h2, env2, S3, xx.trans x3, en3, e⟩
            | rt d =>
              cases e
              exact fun v r3 H3 S3 x3 q3 => p v r3 H3 S3 (xx.trans x3) q3
            | ex kk =>
              cases e
              exact fun σ3 r3 H3 S3 x3 en3 => p σ3 r3 H3 S3 (xx.trans x3) en3
    · cases e
theorem s_wh {t : T} {body : Z.S} (hB : SS cl body) (k : RCok c cl) {n0 : Nat} (S : Sim c.K r h H) (en : EnvR c.K r h.next H σ env)
    (e : whl (fun e1 h1 => evT c.P cl t e1 h1) (fun e1 h1 => ex c.P cl body e1 h1) n0 env h = some (fl, env', h')) (p : PS' c r h H D env' h' fl) : tWhile (rdT c t) (rdS c body) D σ H := by
  refine ⟨fun m σ1 H1 => ∃ r1 h1 env1, Sim c.K r1 h1 H1 ∧ Ext c.K r h.next H r1 h1.next H1 ∧ EnvR c.K r1 h1.next H1 σ1 env1 ∧ whl (fun e1 h1 => evT c.P cl t e1 h1) (fun e1 h1 => ex c.P cl body e1 h1) m env1 h1 = some (fl, env', h'),
    ⟨n0, r, h, env, S, Ext.refl, en, e⟩, ?_⟩
  rintro m σ1 H1 ⟨r1, h1, env1, S1, x1, en1, e1⟩
  cases m with
  | zero => cases e1
  | succ m =>
    unfold whl at e1
    refine t1T k e1 S1 en1 (p.later x1) fun b h2 r2 H2 e2 S2 x2 en2 p2 => ?_
    cases b with
    | false =>
      rw [if_neg Bool.false_ne_true] at e2 ⊢
      cases e2
      exact p2 σ1 r2 H2 S2 Ext.refl en2
    | true =>
      rw [if_pos rfl] at e2 ⊢
      refine ⟨fun σ' H' => ∃ r1 h1 env1, Sim c.K r1 h1 H' ∧ Ext c.K r h.next H r1 h1.next H' ∧ EnvR c.K r1 h1.next H' σ' env1 ∧ whl (fun e1 h1 => evT c.P cl t e1 h1) (fun e1 h1 => ex c.P cl body e1 h1) m env1 h1 = some (fl, env', h'),
        fun σ' H' q => ⟨m, Nat.lt_succ_self _, q⟩, ?_⟩
      have xx := x1.trans x2
      cases hx : ex c.P cl body env1 h2 with
      | none => rw [hx] at e2; cases e2
      | some o =>
        obtain ⟨fl2, env2, h3⟩ := o
        rw [hx] at e2
        refine hB c k env1 h2 fl2 env2 h3 hx r2 σ1 H2 _ S2 en2 ?_
        cases fl2 with
        | nx => exact fun σ3 r3 H3 S3 x3 en3 => ⟨r3, h3, env2, S3, xx.trans x3, en3, e2⟩
        | rt d =>
          cases e2
          exact fun v r3 H3 S3 x3 q3 => p v r3 H3 S3 (xx.trans x3) q3
        | ex kk =>
          cases e2
          exact fun σ3 r3 H3 S3 x3 en3 => p σ3 r3 H3 S3 (xx.trans x3) en3
theorem ixD_of {n m : Nat} {k : Int} {j : Nat} (e : ixD n k = some j) (hn : m = n) : ixN m k = some j := by
  subst hn
  exact e
theorem dput_of {a : Nat} {x : Z.D} {z y : Z.D} {v w : V} (S : Sim c.K r h H) (qk : RepV c.K r h.next H v z) (qv : RepV c.K r h.next H w x) (e : dput h a z x = some h1) :
    ∃ H1, DPut H (r a) v w H1 ∧ Sim c.K r h1 H1 ∧ Ext c.K r h.next H r h1.next H1 := by
  unfold dput at e
  split at e
  · rename_i kvs ha
    split at e
    · rename_i hl
      obtain ⟨q, e1, e2⟩ := Option.map_eq_some_iff.mp e
      subst e2
      obtain ⟨ws, g1, g2⟩ := (S.obj a _ ha).2
      have el : ws.length = kvs.length := by simpa using congrArg List.length g2.1
      rw [key_of qk e1]
      have xx := (S.free ha rfl).ext (K := c.K) (r := r) (n := h.next) (u := .dK (putK ws q w))
      exact ⟨_, DPut.k g1 (by rw [el]; exact lim_lt hl), S.put ha rfl rfl ⟨_, upd_same, RepK.ext xx (repK_put q qv g2)⟩, xx⟩
    · cases e
  · cases e
end

section
variable {cl : Cl} {c : RC} {h h1 : Hm} {r : Rho} {H : Hp}
theorem dputT_of {a : Nat} {x : Z.D} {ks : List Z.D} {us : List V} {w : V} {b : Addr} (S : Sim c.K r h H) (qk : RepL c.K r h.next H us ks) (hb : H b = some (.tup us)) (qv : RepV c.K r h.next H w x) (e : dputT h a ks x = some h1) :
    ∃ H1, DPut H (r a) (.ref b) w H1 ∧ Sim c.K r h1 H1 ∧ Ext c.K r h.next H r h1.next H1 := by
  unfold dputT at e
  split at e
  · rename_i kvs ha
    split at e
    · rename_i hl
      obtain ⟨q, e1, e2⟩ := Option.map_eq_some_iff.mp e
      subst e2
      obtain ⟨ws, g1, g2⟩ := (S.obj a _ ha).2
      have el : ws.length = kvs.length := by simpa using congrArg List.length g2.1
      rw [keys_of qk e1] at hb
      have xx := (S.free ha rfl).ext (K := c.K) (r := r) (n := h.next) (u := .dT (putK ws q w))
      exact ⟨_, DPut.t g1 hb (by rw [el]; exact lim_lt hl), S.put ha rfl rfl ⟨_, upd_same, RepK.ext xx (repK_put q qv g2)⟩, xx⟩
    · cases e
  · cases e
end

theorem sS (cl : Cl) : ∀ s : Z.S, SS cl s
  | .skip => by
    intro c k env h fl env' h' e r σ H D S en p
    simp only [ex] at e
    cases e
    exact p σ r H S Ext.refl en
  | .seq a b => by
    intro c k env h fl env' h' e r σ H D S en p
    simp only [ex] at e
    cases hx : ex c.P cl a env h with
    | none => rw [hx] at e; cases e
    | some o =>
      obtain ⟨fl2, env2, h2⟩ := o
      rw [hx] at e
      refine sS cl a c k env h fl2 env2 h2 hx r σ H _ S en ?_
      cases fl2 with
      | nx => exact fun σ3 r3 H3 S3 x3 en3 => sS cl b c k env2 h2 fl env' h' e r3 σ3 H3 D S3 en3 (p.later x3)
      | rt d => cases e; exact p
      | ex kk => cases e; exact p
  | .asg i a => by
    intro c k env h fl env' h' e r σ H D S en p
    simp only [ex] at e
    refine t1 k e S en p fun x h1 v r1 H1 e1 S1 x1 q1 en1 p1 => ?_
    cases e1
    exact p1 _ r1 H1 S1 Ext.refl (en1.set i q1)
  | .unp is a => by
    intro c k env h fl env' h' e r σ H D S en p
    simp only [ex] at e
    refine t1 k e S en p fun x h1 v r1 H1 e1 S1 x1 q1 en1 p1 => ?_
    split at e1
    · rename_i xs hs
      split at e1
      · rename_i env1 he
        cases e1
        obtain ⟨pp, us, ev, e2, e3⟩ := seqOf_of S1 q1 hs
        subst ev
        have hl := gsR_len is xs env he
        have fin : gsR is us σ H1 D.nx := s_gs e3 en1 he fun σ1 en2 _ => p1 σ1 r1 H1 S1 Ext.refl en2
        rcases e2 with e2 | e2
        · exact .inr ⟨pp, us, rfl, e2, by rw [e3.len]; exact hl, fin⟩
        · exact .inl ⟨pp, us, rfl, e2, by rw [e3.len]; exact hl, fin⟩
      · cases e1
    · cases e1
  | .sfld o f a => by
    intro c k env h fl env' h' e r σ H D S en p
    simp only [ex] at e
    refine t1 k e S en p fun x h1 v r1 H1 e1 S1 x1 q1 en1 p1 => t1 k e1 S1 en1 p1 fun y h2 w r2 H2 e2 S2 x2 q2 en2 p2 => ?_
    cases q2 with
    | @ref a la =>
      simp only at e2
      split at e2
      · rename_i cn fs ha
        split at e2
        · rename_i hf
          cases e2
          obtain ⟨dx, ws, g1, g2⟩ := (S2.obj a _ ha).2
          obtain ⟨c1, c2⟩ := k.fld cn f hf.1
          have xx := (S2.free ha rfl).ext (K := c.K) (r := r2) (n := h2.next) (u := .ins (ca c.K cn) dx (putF (Str.ofString f) v ws))
          refine ⟨_, _, dx, ws, rfl, g1, c1, c2, by rw [repF_len g2]; exact hf.2, ?_⟩
          exact p2 σ r2 _ (S2.put ha rfl rfl ⟨dx, _, upd_same, RepF.ext xx (repF_put (q1.ext x2) g2)⟩) xx (en2.ext xx)
        · cases e2
      · cases e2
    | _ => cases e2
  | .sidx o i a => by
    intro c k env h fl env' h' e r σ H D S en p
    simp only [ex] at e
    refine t1 k e S en p fun x h1 v r1 H1 e1 S1 x1 q1 en1 p1 => t1 k e1 S1 en1 p1 fun y h2 w r2 H2 e2 S2 x2 q2 en2 p2 => t1 k e2 S2 en2 p2 fun z h3 u r3 H3 e3 S3 x3 q3 en3 p3 => ?_
    have q2' := q2.ext x3
    cases q2' with
    | @ref a la =>
      cases q3 with
      | int kk =>
        simp only at e3
        split at e3
        · rename_i xs ha
          split at e3
          · rename_i j hj
            cases e3
            obtain ⟨vs, g1, g2⟩ := (S3.obj a _ ha).2
            have xx := (S3.free ha rfl).ext (K := c.K) (r := r3) (n := h3.next) (u := .lst (vs.set j v))
            refine ⟨_, vs, kk, j, rfl, rfl, g1, ixD_of hj g2.len, ?_⟩
            exact p3 σ r3 _ (S3.put ha rfl rfl ⟨_, upd_same, (g2.ext xx).set (q1.ext ((x2.trans x3).trans xx)) j⟩) xx (en3.ext xx)
          · cases e3
        · cases e3
      | _ => cases e3
    | _ => cases q3 <;> cases e3
  | .dput o i a => by
    intro c k env h fl env' h' e r σ H D S en p
    simp only [ex] at e
    refine t1 k e S en p fun x h1 v r1 H1 e1 S1 x1 q1 en1 p1 => t1 k e1 S1 en1 p1 fun y h2 w r2 H2 e2 S2 x2 q2 en2 p2 => t1 k e2 S2 en2 p2 fun z h3 u r3 H3 e3 S3 x3 q3 en3 p3 => ?_
    have q2' := q2.ext x3
    cases q2' with
    | @ref a la =>
      simp only at e3
      split at e3
      · rename_i h4 hp
        cases e3
        obtain ⟨H4, g1, g2, g3⟩ := dput_of (y := z) S3 q3 (q1.ext (x2.trans x3)) hp
        exact ⟨_, H4, rfl, g1, p3 σ r3 H4 g2 g3 (en3.ext g3)⟩
      · cases e3
    | _ => cases e3
  | .aug i o a => by
    intro c k env h fl env' h' e r σ H D S en p
    simp only [ex] at e
    split at e
    · rename_i d hd
      obtain ⟨v, e1, q⟩ := en.at_ i d hd
      refine ⟨v, e1, ?_⟩
      refine t1 k e S en p fun x h1 w r1 H1 e1 S1 x1 q1 en1 p1 => ?_
      split at e1
      · rename_i z hz
        cases e1
        exact s_aug hz (q.ext x1) q1 fun u qu => p1 _ r1 H1 S1 Ext.refl (en1.set i qu)
      · cases e1
    · cases e
  | .augf o f op a => by
    intro c k env h fl env' h' e r σ H D S en p
    simp only [ex] at e
    refine t1 k e S en p fun x h1 v r1 H1 e1 S1 x1 q1 en1 p1 => ?_
    cases q1 with
    | @ref a la =>
      simp only at e1
      split at e1
      · rename_i cn fs ha
        split at e1
        · rename_i hf
          split at e1
          · rename_i d hd
            obtain ⟨dx, ws, g1, g2⟩ := (S1.obj a _ ha).2
            obtain ⟨c1, c2⟩ := k.fld cn f hf
            obtain ⟨u, g3, g4⟩ := repF_get g2 hd
            refine ⟨_, _, dx, ws, u, rfl, g1, c1, c2, g3, ?_⟩
            refine t1 k e1 S1 en1 p1 fun y h2 w r2 H2 e2 S2 x2 q2 en2 p2 => ?_
            split at e2
            · rename_i z hz
              split at e2
              · rename_i cn' fs' ha'
                split at e2
                · rename_i hc
                  obtain ⟨rfl, hl⟩ := hc
                  cases e2
                  obtain ⟨dx', ws', g5, g6⟩ := (S2.obj a _ ha').2
                  refine s_aug hz (g4.ext x2) q2 fun u2 qu => ?_
                  have xx := (S2.free ha' rfl).ext (K := c.K) (r := r2) (n := h2.next) (u := .ins (ca c.K cn') dx' (putF (Str.ofString f) u2 ws'))
                  have er : r2 a = r1 a := x2.at_ a la
                  rw [← er]
                  refine ⟨dx', ws', g5, by rw [repF_len g6]; exact hl, ?_⟩
                  exact p2 σ r2 _ (S2.put ha' rfl rfl ⟨dx', _, upd_same, RepF.ext xx (repF_put qu g6)⟩) xx (en2.ext xx)
                · cases e2
              · cases e2
            · cases e2
          · cases e1
        · cases e1
      · cases e1
    | _ => cases e1
  | .augi o i op a => by
    intro c k env h fl env' h' e r σ H D S en p
    simp only [ex] at e
    refine t1 k e S en p fun y h1 v r1 H1 e1 S1 x1 q1 en1 p1 => t1 k e1 S1 en1 p1 fun z h2 w r2 H2 e2 S2 x2 q2 en2 p2 => ?_
    cases q1 with
    | @ref a la =>
      cases q2 with
      | int kk =>
        simp only at e2
        split at e2
        · rename_i xs ha
          split at e2
          · rename_i hk
            split at e2
            · rename_i x hx
              obtain ⟨vs, g1, g2⟩ := (S2.obj a _ ha).2
              obtain ⟨u, g3, g4⟩ := g2.get hx
              have er : r2 a = r1 a := x2.at_ a la
              rw [er] at g1
              refine ⟨r1 a, vs, kk, u, rfl, rfl, hk, g1, g3, ?_⟩
              refine t1 k e2 S2 en2 p2 fun v3 h3 w3 r3 H3 e3 S3 x3 q3 en3 p3 => ?_
              split at e3
              · rename_i w4 ys hz hy
                split at e3
                · rename_i hl
                  cases e3
                  refine s_aug hz (g4.ext x3) q3 fun u2 qu => ?_
                  obtain ⟨vs', g5, g6⟩ := (S3.obj a _ hy).2
                  have er3 : r3 a = r1 a := (x3.at_ a (Nat.lt_of_lt_of_le la x2.le)).trans er
                  have xx := (S3.free hy rfl).ext (K := c.K) (r := r3) (n := h3.next) (u := .lst (vs'.set kk.toNat u2))
                  rw [← er3]
                  refine ⟨_, vs', kk, kk.toNat, rfl, rfl, g5, ?_, ?_⟩
                  · refine ixD_of (n := ys.length) ?_ g6.len
                    unfold ixD
                    rw [if_pos hk, if_pos (by omega)]
                  · exact p3 σ r3 _ (S3.put hy rfl rfl ⟨_, upd_same, (g6.ext xx).set (qu.ext xx) _⟩) xx (en3.ext xx)
                · cases e3
              · cases e3
            · cases e2
          · cases e2
        · cases e2
      | _ => cases e2
    | _ => cases q2 <;> cases e2
  | .ite t a b => by
    intro c k env h fl env' h' e r σ H D S en p
    simp only [ex] at e
    refine t1T k e S en p fun x h1 r1 H1 e1 S1 x1 en1 p1 => ?_
    cases x with
    | true => rw [if_pos rfl] at e1 ⊢; exact sS cl a c k env h1 fl env' h' e1 r1 σ H1 D S1 en1 p1
    | false => rw [if_neg Bool.false_ne_true] at e1 ⊢; exact sS cl b c k env h1 fl env' h' e1 r1 σ H1 D S1 en1 p1
  | .for_ g kk es body => by
    intro c k env h fl env' h' e r σ H D S en p
    simp only [ex] at e
    refine t1A k e S en p fun ds h1 vs r1 H1 e1 S1 x1 q1 en1 p1 => ?_
    split at e1
    · rename_i items gd hw
      exact s_walk S1 q1 hw fun J G => s_for (sS cl body) k G S1 Ext.refl en1 e1 p1
    · cases e1
  | .wh t body => by
    intro c k env h fl env' h' e r σ H D S en p
    simp only [ex] at e
    exact s_wh (sS cl body) k S en e p
  | .ret a => by
    intro c k env h fl env' h' e r σ H D S en p
    simp only [ex] at e
    refine t1 k e S en p fun x h1 v r1 H1 e1 S1 x1 q1 en1 p1 => ?_
    cases e1
    exact p1 v r1 H1 S1 Ext.refl q1
  | .drop a => by
    intro c k env h fl env' h' e r σ H D S en p
    simp only [ex] at e
    refine t1 k e S en p fun x h1 v r1 H1 e1 S1 x1 q1 en1 p1 => ?_
    cases e1
    exact p1 σ r1 H1 S1 Ext.refl en1
  | .rai cn => by
    intro c k env h fl env' h' e r σ H D S en p
    simp only [ex] at e
    cases e
    exact p σ r H S Ext.refl en
  | .try_ b cn none s => by
    intro c k env h fl env' h' e r σ H D S en p
    simp only [ex] at e
    cases e0 : ex c.P cl b env h with
    | none => rw [e0] at e; cases e
    | some o =>
      obtain ⟨fl0, env2, h2⟩ := o
      rw [e0] at e
      show rdS (c.with (wOnly c.K (.ref (ca c.K cn)) (fun _ _ _ => rdS (c.with noW) s) c.W D)) b D σ H
      refine sS cl b (c.with (wOnly c.K (.ref (ca c.K cn)) (fun _ _ _ => rdS (c.with noW) s) c.W D)) (k.with _) env h fl0 env2 h2 e0 r σ H D S en ?_
      cases fl0 with
      | nx => cases e; exact p
      | rt d => cases e; exact p
      | ex kk =>
        dsimp only at e
        cases eb : c.P.exm kk cn with
        | none => rw [eb] at e; cases e
        | some bb =>
          rw [eb] at e
          have eo := k.exm _ _ _ eb
          intro σ' r' H' S' x' en'
          cases bb with
          | false =>
            cases e
            exact ⟨false, eo, (fun z => nomatch z), fun _ => p σ' r' H' S' x' en'⟩
          | true =>
            refine ⟨true, eo, fun _ a na => ?_, fun z => nomatch z⟩
            dsimp only at e
            cases e1 : ex c.P cl s env2 h2 with
            | none => rw [e1] at e; cases e
            | some o1 =>
              obtain ⟨fl1, env3, h3⟩ := o1
              rw [e1] at e
              have p' := p.later x'
              cases fl1 with
              | nx =>
                cases e
                exact sS cl s (c.with noW) (k.with _) env2 h2 .nx _ _ e1 r' σ' H' D S' en' p'
              | rt d =>
                cases e
                exact sS cl s (c.with noW) (k.with _) env2 h2 (.rt d) _ _ e1 r' σ' H' D S' en' p'
              | ex k2 => cases e
  | .tryK b cn i j => by
    intro c k env h fl env' h' e r σ H D S en p
    simp only [ex] at e
    cases e0 : ex c.P cl b env h with
    | none => rw [e0] at e; cases e
    | some o =>
      obtain ⟨fl0, env2, h2⟩ := o
      rw [e0] at e
      show rdS (c.with (Kept.wish c.K (.ref (ca c.K cn)) i (fun _ => tAsg (tVar i) (gName j)) D)) b D σ H
      refine sS cl b (c.with (Kept.wish c.K (.ref (ca c.K cn)) i (fun _ => tAsg (tVar i) (gName j)) D)) (k.with _) env h fl0 env2 h2 e0 r σ H D S en ?_
      cases fl0 with
      | nx => cases e; exact p
      | rt d => cases e; exact p
      | ex kk =>
        dsimp only at e
        split at e
        · rename_i hc
          obtain ⟨hc, hi, hij⟩ := hc
          cases e
          intro σ' r' H' S' x' en'
          refine ⟨k.exm _ _ _ hc, fun a oe na hz hf => ?_⟩
          refine ⟨.ref a, List.getElem?_set_self (by rw [en'.len]; exact hi), ?_⟩
          have xx := Free.ext (K := c.K) (r := r') (n := h'.next) (u := .frz oe xT) (.inl na)
          refine p _ r' (upd H' a (.frz oe xT)) (S'.grow na) (x'.trans xx) ?_
          have e2 : (env2.set j (some (.xob kk))).set i none = ((env2.set i none).set j (some (.xob kk))).set i none := by
            rw [List.set_comm _ _ hij, List.set_set]
          rw [e2]
          exact (((en'.ext xx).over i (.ref a)).set j (.xob kk upd_same hz hf)).unset i
        · cases e
  | .try_ b cn (some i) s => by
    intro c k env h fl env' h' e r σ H D S en p
    simp only [ex] at e
    cases e0 : ex c.P cl b env h with
    | none => rw [e0] at e; cases e
    | some o =>
      obtain ⟨fl0, env2, h2⟩ := o
      rw [e0] at e
      show rdS (c.with (wAs c.K (.ref (ca c.K cn)) i (fun a cls d D σ H => ∃ k, cls = .ref (ca c.K k) ∧ rdS (c.exc k a cls d) s D σ H) c.W D)) b D σ H
      refine sS cl b (c.with (wAs c.K (.ref (ca c.K cn)) i (fun a cls d D σ H => ∃ k, cls = .ref (ca c.K k) ∧ rdS (c.exc k a cls d) s D σ H) c.W D)) (k.with _) env h fl0 env2 h2 e0 r σ H D S en ?_
      cases fl0 with
      | nx => cases e; exact p
      | rt d => cases e; exact p
      | ex kk =>
        dsimp only at e
        cases eb : c.P.exm kk cn with
        | none => rw [eb] at e; cases e
        | some bb =>
          rw [eb] at e
          have eo := k.exm _ _ _ eb
          intro σ' r' H' S' x' en'
          cases bb with
          | false =>
            cases e
            exact ⟨false, eo, (fun z => nomatch z), fun _ => p σ' r' H' S' x' en'⟩
          | true =>
            refine ⟨true, eo, fun _ a na => ⟨kk, rfl, ?_⟩, fun z => nomatch z⟩
            have ea := oneA_of e a
            unfold emptied at ea
            have p' := p.later x'
            cases e1 : ex { c.P with xk := some (kk, a) } cl s (env2.set i (some (.exc kk a))) h2 with
            | none => rw [e1] at ea; cases ea
            | some o1 =>
              obtain ⟨fl1, env3, h3⟩ := o1
              rw [e1] at ea
              cases fl1 with
              | nx =>
                cases ea
                exact sS cl s (c.exc kk a (.ref (ca c.K kk)) none) (k.exc kk a) (env2.set i (some (.exc kk a))) h2 .nx _ _ e1 r' (σ'.set i (some (.ref a))) H' _ S' (en'.set i (.exc kk a)) fun σ6 r6 H6 S6 x6 en6 => p' _ r6 H6 S6 x6 (en6.unset i)
              | rt d =>
                cases ea
                exact sS cl s (c.exc kk a (.ref (ca c.K kk)) none) (k.exc kk a) (env2.set i (some (.exc kk a))) h2 (.rt d) _ _ e1 r' (σ'.set i (some (.ref a))) H' _ S' (en'.set i (.exc kk a)) p'
              | ex k2 => cases ea
  | .par i j es => by
    intro c k env h fl env' h' e r σ H D S en p
    simp only [ex] at e
    refine t1A k e S en p fun vs h1 us r1 H1 e1 S1 x1 q1 en1 p1 => ?_
    split at e1
    · rename_i x y
      obtain ⟨v, w, rfl, qv, qw⟩ := two_of q1
      cases e1
      exact ⟨v, w, rfl, p1 _ r1 H1 S1 Ext.refl ((en1.set i qv).set j qw)⟩
    · cases e1
  | .dputT o es a => by
    intro c k env h fl env' h' e r σ H D S en p
    simp only [ex] at e
    refine t1 k e S en p fun x h1 v r1 H1 e1 S1 x1 q1 en1 p1 => t1 k e1 S1 en1 p1 fun y h2 w r2 H2 e2 S2 x2 q2 en2 p2 => t1A k e2 S2 en2 p2 fun ks h3 us r3 H3 e3 S3 x3 q3 en3 p3 => ?_
    have q2' := q2.ext x3
    cases q2' with
    | @ref a0 la =>
      simp only at e3
      split at e3
      · rename_i hl
        split at e3
        · rename_i h4 hp
          cases e3
          refine ⟨by rw [q3.len]; exact lim_le hl, fun q nq => ?_⟩
          have xq := (Free.ext (K := c.K) (r := r3) (n := h3.next) (u := .tup us) (.inl nq))
          have S4 := S3.grow (u := .tup us) nq
          obtain ⟨H5, g, S5, x5⟩ := dputT_of (b := q) S4 (q3.ext xq) upd_same ((q1.ext (x2.trans x3)).ext xq) hp
          exact ⟨_, H5, rfl, g, p3 σ r3 H5 S5 (xq.trans x5) (en3.ext (xq.trans x5))⟩
        · cases e3
      · cases e3
    | _ => cases e3
  | .lck i b => by
    intro c k env h fl env' h' e r σ H D S en p
    simp only [ex] at e
    split at e
    · rename_i a0 ha0
      split at e
      · rename_i o ho
        split at e
        · rename_i o' hl
          have f : Free H (r a0) := S.free ho (by cases o <;> first | rfl | cases hl)
          obtain ⟨u, h1, m, L⟩ := S.lock ho hl
          refine ⟨r a0, u, h1, (dct_mut m).2, fun od => ?_⟩
          obtain ⟨S1, L2⟩ := L od
          split at e
          · rename_i env2 h2 e1
            split at e
            · rename_i hf
              cases e
              refine sS cl b c k env _ _ _ _ e1 r σ _ _ S1 (en.ext f.ext) ?_
              intro σ' r2 H2 S2 x2 en2
              obtain ⟨er, hd, S3, x3, x4⟩ := L2 r2 h2 H2 S2 x2 hf
              exact ⟨hd, p σ' r2 _ S3 x3 (en2.ext0 x4)⟩
            · cases e
          · rename_i d env2 h2 e1
            split at e
            · rename_i hf
              cases e
              refine sS cl b c k env _ _ _ _ e1 r σ _ _ S1 (en.ext f.ext) ?_
              intro v r2 H2 S2 x2 q2
              obtain ⟨er, hd, S3, x3, x4⟩ := L2 r2 h2 H2 S2 x2 hf
              exact ⟨hd, p v r2 _ S3 x3 (q2.ext0 x4)⟩
            · cases e
          · cases e
        · cases e
      · cases e
    · cases e

def spR (P : Prog) (K : PySem.W.Frag) (n : Nat) (f : String) : Sp := fun vs H Q E => ∃ F r h ds res h', P.fn f = some F ∧ ds.length = F.np ∧ Sim K r h H ∧ RepL K r h.next H vs ds ∧ callF P n f ds h = some (res, h') ∧ PG K E r h H (RepV K) Q res h'
theorem spR_len {P : Prog} {K : PySem.W.Frag} {n : Nat} {f : String} {F : Fn} {vs : List V} {H : Hp} {Q : VK} {E : XK} (hf : P.fn f = some F) (h : spR P K n f vs H Q E) : vs.length = F.np := by
  obtain ⟨F', r, h, ds, res, h', e1, e2, _, q, _⟩ := h
  rw [hf] at e1
  cases e1
  rw [q.len, e2]
theorem callF_np {P : Prog} {n : Nat} {f : String} {ds : List D} {h h' : Hm} {res : Except String D} (e : callF P n f ds h = some (res, h')) : ∃ F, P.fn f = some F ∧ ds.length = F.np := by
  cases n with
  | zero => cases e
  | succ n =>
    simp only [callF] at e
    split at e
    · cases e
    · rename_i F hF
      split at e
      · rename_i hl
        exact ⟨F, hF, hl⟩
      · cases e
structure Facts (P : Prog) (K : PySem.W.Frag) (gv : String → V) : Prop where
  con : ∀ x d, P.glob x = some d → ∀ r n H, RepV K r n H (gv x) d
  tup : ∀ x xs, P.glob x = some (.tup xs) → ∀ H, tyV K "tuple" (gv x) H
  fld : ∀ cn f, P.fld cn f = true → Cls K (ca K cn) ∧ NoAttr K (ca K cn) (Str.ofString f)
  sub : ∀ cn cm b, P.sub cn cm = some b → IsC K (ca K cn) (ca K cm) b
  exm : ∀ k cm b, P.exm k cm = some b → PySem.W.exmOne K (.ref (ca K k)) (.ref (ca K cm)) = some b
  exs : ∀ k cm b, P.exs k cm = some b → ExcC K (ca K k) ∧ PySem.W.kitOne K (.ref (ca K k)) (.ref (ca K cm)) = some b
  exb : ∀ k cm b, P.exb k cm = some b → ExcC K (ca K k) ∧ PySem.W.kitOne K (.ref (ca K k)) (.type cm) = some b
  nox : P.xk = none
def rc (P : Prog) (K : PySem.W.Frag) (gv : String → V) (n : Nat) (W : WX) : RC := { K := K, P := P, sp := spR P K n, gv := gv, W := W }
theorem rc_ok {P : Prog} {K : PySem.W.Frag} {gv : String → V} (F : Facts P K gv) (n : Nat) (W : WX) : RCok (rc P K gv n W) (callF P n) :=
  ⟨fun f ds h res h' e r H vs Q E S q p => by
    obtain ⟨F, h1, h2⟩ := callF_np e
    exact ⟨F, r, h, ds, res, h', h1, h2, S, q, e, p⟩, F.con, F.tup, F.fld, F.sub, F.exm, F.exs, F.exb, fun k a e => by rw [show (rc P K gv n W).P.xk = P.xk from rfl, F.nox] at e; cases e⟩
theorem body_ok {P : Prog} {K : PySem.W.Frag} {gv : String → V} (Fa : Facts P K gv) {n : Nat} {f : String} {F : Fn} (hf : P.fn f = some F) {N : List Str} (hN : N.length = F.ns) {vs : List V} {H : Hp} {Q : VK} {E : XK} (h : spR P K (n + 1) f vs H Q E) :
    rdS (rc P K gv n fun cls d _ H => E cls d H) F.body { nx := fun _ H' => Q .non H', rt := Q } (L2.start N vs) H := by
  obtain ⟨F', r, h, ds, res, h', e1, e2, S, q, e, p⟩ := h
  rw [hf] at e1
  cases e1
  simp only [callF, hf, if_pos e2] at e
  cases hx : ex P (callF P n) F.body (start F.ns ds) h with
  | none => rw [hx] at e; cases e
  | some o =>
    obtain ⟨fl, env', h2⟩ := o
    rw [hx] at e
    refine sS (callF P n) F.body _ (rc_ok Fa n _) _ h fl env' h2 hx r _ H _ S (EnvR.start q hN) ?_
    cases fl with
    | nx =>
      cases e
      exact fun σ' r' H' S' x' _ => p .non r' H' S' x' .non
    | rt d =>
      cases e
      exact p
    | ex kk =>
      cases e
      exact fun σ' r' H' S' x' _ => p r' H' S' x'
end Z

set_option maxRecDepth 100000
set_option maxHeartbeats 2000000
namespace Z
open PySem PySem.Spec PyProof.Rows L2

theorem zpL {X : Cx} : ∀ σ, PassesAt (L2.CX X.prog X.w) X σ (fun cls d H => noW cls d σ H) := fun σ pins H s e s' _ h => by
  obtain ⟨_, _, _, _, _, _, _, _, _, _, _, _, z⟩ := h
  exact z.elim
theorem zpD {P : Program} {w : World} {K : PySem.W.Frag} {mg : Str → Option Value} {base : Heap} {N : List Str} {qual : Str} {scope : Scope} {f : Addr} {cd : Value} {A : Around} {outer : List PySem.Env} {s : Shared} {H : Hp} {E : XK} :
    ∀ σ, PassesAt (L2.CX P w) (cxOf (L2.CX P w) P w K mg base N qual scope f cd A outer s H E) σ (fun cls d H' => (fun (cls : Value) (d : Option Addr) (_ : L2.St) (H : Hp) => E cls d H) cls d σ H') :=
  fun σ => passAt (X := cxOf (L2.CX P w) P w K mg base N qual scope f cd A outer s H E) (takes_of rfl rfl rfl rfl) σ
section
variable {X : Cx} {CX : CXT} {k : Nat} {f : Addr} {fd : FuncData} {ps : List Str} {dvs : List V} {sp : Sp} {E : L2.St → XK} {x m : Str} {p pos apos : Pos} {e o : Expr} {es : List Expr} {ta : TE} {t : TA}
structure Cal (P : Program) (w : World) (K : PySem.W.Frag) (mg : Str → Option Value) (base : Heap) (CX : CXT) (k : Nat) (f : Addr) (ps : List Str) (dvs : List V) (sp : Sp) : Prop where
  ex : ∃ fd ds, FnOk P w K mg base CX k f fd ps sp ∧ Vals dvs ds ∧ Binds K fd ps ds
  kp : PySem.W.keepIn K (.ref f) = true
theorem run_z {pins : List (Addr × Obj)} {σ : L2.St} {H : Hp} {s : Shared} {Q : VK} {us : List Value} {vs : List V} (C : Cal X.prog X.w X.K X.mg X.base CX k f ps dvs sp) (hr : Room k X.A) (hx : PassesAt CX X σ (E σ)) (I : Inv X pins σ H s) (r : Vals vs us) (h : sp (vs ++ dvs) H Q (E σ)) :
    wpAny (model X.prog X.w) X.A (call (.ref f) us) (EP X pins σ Q) X.xe s := by
  obtain ⟨fd, ds, F, hd, hb⟩ := C.ex
  have r2 : Vals (vs ++ dvs) (us ++ ds) := Vals.append r hd
  have len : (us ++ ds).length = ps.length := r2.length.symm.trans (F.len _ _ _ _ h)
  have run := F.run X.A X.stack s H ⟨us, []⟩ (us ++ ds) (vs ++ dvs) Q (E σ) hr I.env0 (hb s us I.kIn len) r2 h
  refine wpAny_call (codeAny_mono run fun res s' hq => ?_)
  match res, hq with
  | .error e, hq => exact hx pins H s e s' I hq
  | .ok (.ret u), hq => exact I.after hq
theorem zcall (C : Cal X.prog X.w X.K X.mg X.base CX k f ps dvs sp) (hr : Room k X.A) (hg : Gl X x) (hm : X.mg x = some (.ref f)) (hx : ∀ σ, PassesAt CX X σ (E σ)) (ha : PA X (e :: es) t) (hdb : (x == ("__debug__" : Str)) = false := by decide)
    (he : starEach (e :: es) X.env = (false, eval e X.env) :: starEach es X.env := by rfl) (hpl : (backTo pos (starEach es X.env)).any (·.1) = false := by rfl) :
    PE X (.Call (.Name x p) (e :: es) [] pos) (fun σ H Q => t σ H fun vs H1 => sp (vs ++ dvs) H1 Q (E σ)) :=
  ⟨fun pins s σ H Q I h => wpAny_Call_Name_kw (ld_glob I hg hm (PySem.W.callWith_K (h₀ := X.base) I.ok.mod.kin C.kp
    (thn (ha.run pos pins s σ H _ I h) fun us s1 ⟨vs, H1, I1, r, q⟩ => ⟨I1.kIn, run_z C hr (hx σ) I1 r q⟩) he hpl) hdb)⟩
structure Mets (Pg : Program) (w : World) (K : PySem.W.Frag) (mg : Str → Option Value) (base : Heap) (CX : CXT) (k : Nat) (P : Prog) (m : String) (dvs : List V) (sp : String → Sp) : Prop where
  ex : ∀ cn f, P.mt cn m = some f → Cls K (ca K cn) ∧ ∃ g ps, Meth K (ca K cn) (Str.ofString m) g ∧ Cal Pg w K mg base CX k g ps dvs (sp f)
structure Mkr (Pg : Program) (w : World) (K : PySem.W.Frag) (mg : Str → Option Value) (base : Heap) (CX : CXT) (k : Nat) (P : Prog) (cn : String) (sp : String → Sp) : Prop where
  ex : ∃ f g ps, P.mt cn "__init__" = some f ∧ Mk K (ca K cn) g ∧ Cal Pg w K mg base CX k g ps [] (sp f)
end

section
variable {X : Cx} {C : Addr} {x : Str} {p pos : Pos}
structure Mk0 (K : PySem.W.Frag) (C : Addr) : Prop where
  makes : PySem.W.makesIn K C = true
  init : PySem.W.findIn K (.ref C) "__init__" = some (some (.builtin "object.__init__"))
  kp : PySem.W.keepIn K (.ref C) = true
  top : PySem.W.mroIn K C (.type "object") = some true
def mk0B (K : PySem.W.Frag) (x : Str) : Bool := PySem.W.makesIn K (He.ga K x) && (He.eqO (PySem.W.findIn K (.ref (He.ga K x)) "__init__") (some (some (.builtin "object.__init__"))) && (PySem.W.keepIn K (.ref (He.ga K x)) && decide (PySem.W.mroIn K (He.ga K x) (.type "object") = some true)))
def iscB (K : PySem.W.Frag) (x y : Str) (b : Bool) : Bool := (He.Fa.cls x).ok K && (He.eqO (PySem.W.findIn K (.ref (He.ga K x)) "__class__") (some (some (.builtin "object.__class__"))) && (He.eqO (PySem.W.specialIn K (.builtin "object.__class__") "__get__") (some (some (.builtin "getset_descriptor.__get__"))) &&
  (decide (PySem.W.takesIn K (.builtin "object.__class__") = some true) && (decide (PySem.W.mroIn K (He.ga K x) (.type "object") = some true) && decide (PySem.W.kitOne K (.ref (He.ga K x)) (.ref (He.ga K y)) = some b)))))
end

open RT
section
variable {prog : Program} {w : World} {A : Around} {s : Shared} {R : Result → Shared → Prop}
end
section
variable {X : Cx}
end
theorem ztry {X : Cx} {c : RC} {b s : S} {cn : String} {xn : Str} {body suite : List Stmt} {b₀ : Stmt} {np pos pos' : Pos} (hK : c.K = X.K) (tk : Takes X c.W) (hg : Gl X xn) (hm : X.mg xn = some (.ref (ca X.K cn)))
    (hb : ∀ (W : WX) (pn : List (Addr × Obj)) (xe : Value → Shared → Prop), Takes (X.tr pn xe) W → PassesOwn (model X.prog X.w) X.A X.env xe → PSs (X.tr pn xe) body (rdS (c.with W) b))
    (hsu : ∀ (a : Addr) (oe : Obj) (pn : List (Addr × Obj)), PSs (X.suite a ((a, oe) :: pn)) (b₀ :: suite) (rdS (c.with noW) s))
    (hs : X.stack = X.env :: X.outer := by rfl) (hf : X.env.frame = some X.env.locals := by rfl) (hd : (xn == ("__debug__" : Str)) = false := by decide) :
    PS X (.Try body [.ExceptHandler (some (.Name xn np)) none (b₀ :: suite) pos'] [] [] pos) (rdS c (.try_ b cn none s)) := by
  have h := ps_try_only (X := X) (tb := fun W => rdS (c.with W) b) (ts := fun _ _ _ => rdS (c.with noW) s) (pos := pos) (pos' := pos') (np := np) hs hf ⟨hg, hd, .inl hm⟩ tk hb (fun a oe cls d pn _ _ => hsu a oe pn)
  rw [← hK] at h
  exact h

theorem ztryAs {X : Cx} {c : RC} {b s : S} {cn : String} {i : Nat} {xn n : Str} {body suite : List Stmt} {b₀ : Stmt} {np pos pos' : Pos} (hK : c.K = X.K) (tk : Takes X c.W) (hN : X.N.Nodup) (hg : Gl X xn) (hm : X.mg xn = some (.ref (ca X.K cn)))
    (hb : ∀ (W : WX) (pn : List (Addr × Obj)) (xe : Value → Shared → Prop), Takes (X.tr pn xe) W → PassesOwn (model X.prog X.w) X.A X.env xe → PSs (X.tr pn xe) body (rdS (c.with W) b))
    (hsu : ∀ (a : Addr) (oe : Obj) (cls : Value) (d : Option Addr) (pn : List (Addr × Obj)) (kk : String), Zc cls d oe → (∃ vs, oe.data = .fields vs) → PSs (X.suite a ((a, oe) :: pn)) (b₀ :: suite) (rdS (c.exc kk a cls d) s))
    (hi : X.N[i]? = some n := by rfl) (hln : X.env.kindOf n = some .local := by rfl) (hs : X.stack = X.env :: X.outer := by rfl) (hf : X.env.frame = some X.env.locals := by rfl) (hd : (xn == ("__debug__" : Str)) = false := by decide) :
    PS X (.Try body [.ExceptHandler (some (.Name xn np)) (some n) (b₀ :: suite) pos'] [] [] pos) (rdS c (.try_ b cn (some i) s)) := by
  have h := ps_try_as (X := X) (i := i) (tb := fun W => rdS (c.with W) b) (ts := fun a cls d D σ H => ∃ k, cls = .ref (ca X.K k) ∧ rdS (c.exc k a cls d) s D σ H) (pos := pos) (pos' := pos') (np := np) hs hf hN hi hln ⟨hg, hd, .inl hm⟩ tk hb
    (fun a oe cls d pn hz hf => ⟨fun pins st σ H D I h => by obtain ⟨k, _, h⟩ := h; exact (hsu a oe cls d pn k hz hf).run pins st σ H D I h⟩)
  rw [← hK] at h
  exact h
def excB (K : PySem.W.Frag) (x : Str) : Bool := He.eqO (PySem.W.findIn K (.ref (He.ga K x)) "__getattribute__") (some (some (.builtin "BaseException.__getattribute__"))) && (He.eqO (PySem.W.findIn K (.ref (He.ga K x)) "__getattr__") (some none) && (decide (PySem.W.subIn K (.ref (He.ga K x)) (.type "BaseException") = some true) && (PySem.W.hasDictIn K (He.ga K x) &&
  (He.eqO (PySem.W.findIn K (.ref (He.ga K x)) "__class__") (some (some (.builtin "object.__class__"))) && (He.eqO (PySem.W.specialIn K (.builtin "object.__class__") "__get__") (some (some (.builtin "getset_descriptor.__get__"))) && (decide (PySem.W.takesIn K (.builtin "object.__class__") = some true) && decide (PySem.W.mroIn K (He.ga K x) (.type "object") = some true)))))))
theorem excC_ok {K : PySem.W.Frag} {x : Str} (h : excB K x = true) : ExcC K (He.ga K x) := by
  obtain ⟨h1, h⟩ := He.ba h
  obtain ⟨h2, h⟩ := He.ba h
  obtain ⟨h3, h⟩ := He.ba h
  obtain ⟨h4, h⟩ := He.ba h
  obtain ⟨h5, h⟩ := He.ba h
  obtain ⟨h6, h⟩ := He.ba h
  obtain ⟨h7, h8⟩ := He.ba h
  exact ⟨He.eqO_ok h1, He.eqO_ok h2, of_decide_eq_true h3, h4, He.eqO_ok h5, He.eqO_ok h6, of_decide_eq_true h7, of_decide_eq_true h8⟩

section
variable {X : Cx} {v : V} {x : Str}
def Says (mg : Str → Option Value) (x : Str) (v : V) : Prop := ∃ u, mg x = some u ∧ RelV v u
theorem zglo {pos : Pos} (c : Says X.mg x v) (hg : Gl X x := by rfl) (hd : (x == ("__debug__" : Str)) = false := by decide) : PE X (.Name x pos) (tC v) := by
  obtain ⟨u, hm, r⟩ := c
  exact pe_glob hg hm r hd
end

section
variable {X : Cx} {e e' : Expr} {t : TA} {p pos : Pos}
theorem zb_len (hg : Gl X "len") (hm : X.mg "len" = none) (ha : PA X [e] t) (he : starEach [e] X.env = (false, eval e X.env) :: starEach [] X.env := by rfl) : PE X (.Call (.Name "len" p) [e] [] pos) (tCB (rBi X.K .len) t) :=
  pe_callB z_len hg hm (by decide +kernel) ha (he := he)
theorem zb_int (hg : Gl X "int") (hm : X.mg "int" = none) (ha : PA X [e] t) (he : starEach [e] X.env = (false, eval e X.env) :: starEach [] X.env := by rfl) : PE X (.Call (.Name "int" p) [e] [] pos) (tCB (rBi X.K .int) t) :=
  pe_callTy z_int hg hm (by decide +kernel) ha (he := he)
theorem zb_str (hg : Gl X "str") (hm : X.mg "str" = none) (ha : PA X [e] t) (he : starEach [e] X.env = (false, eval e X.env) :: starEach [] X.env := by rfl) : PE X (.Call (.Name "str" p) [e] [] pos) (tCB (rBi X.K .str) t) :=
  pe_callTy z_str hg hm (by decide +kernel) ha (he := he)
theorem zb_list (hc : X.calm = true) (hg : Gl X "list") (hm : X.mg "list" = none) (ha : PA X [e] t) (he : starEach [e] X.env = (false, eval e X.env) :: starEach [] X.env := by rfl) : PE X (.Call (.Name "list" p) [e] [] pos) (tCB (rBi X.K .list) t) :=
  pe_callTy (z_list hc) hg hm (by decide +kernel) ha (he := he)
theorem zb_min2 (hc : X.calm = true) (hg : Gl X "min") (hm : X.mg "min" = none) (ha : PA X [e, e'] t) (he : starEach [e, e'] X.env = (false, eval e X.env) :: starEach [e'] X.env := by rfl) (hpl : (backTo pos (starEach [e'] X.env)).any (·.1) = false := by rfl) :
    PE X (.Call (.Name "min" p) [e, e'] [] pos) (tCB (rBi X.K .min2) t) := pe_callB (z_min2 hc) hg hm (by decide +kernel) ha (he := he) (hpl := hpl)
theorem zb_minD {te te' : TE} {kp : Pos} (hc : X.calm = true) (hg : Gl X "min") (hm : X.mg "min" = none) (h1 : PE X e te) (h2 : PE X e' te') (he : starEach [e] X.env = (false, eval e X.env) :: starEach [] X.env := by rfl) :
    PE X (.Call (.Name "min" p) [e] [⟨some "default", e', kp⟩] pos) (tCB (rBi X.K .minD) (tCons te (tCons te' tNil))) :=
  ⟨fun pins s σ H Q I h => (pe_callBK (X := X) (x := "min") (p := p) (pos := pos) (cr_minD hc) hg hm (by decide +kernel) (pa_cons h1 pa_nil (hs := he)) (pk_cons h2 pk_nil) (he := by rw [he]; rfl) (hpl := by rw [he]; rfl)).run pins s σ H Q I h⟩
theorem zty (t : Tn) {p : Pos} (hg : Gl X (Str.ofString t.nm)) (hm : X.mg (Str.ofString t.nm) = none) : PE X (.Name (Str.ofString t.nm) p) (tC (.ty t.nm)) := by
  refine pe_bltn (u := .type t.nm) hg hm ?_ rfl ?_ ?_
  · cases t <;> decide +kernel
  · cases t <;> decide
  · cases t <;> decide
theorem zisi {ta : TE} {x : Str} {q : Pos} (t : Tn) (hx : x = Str.ofString t.nm) (hg : Gl X "isinstance") (hm : X.mg "isinstance" = none) (hg2 : Gl X x) (hm2 : X.mg x = none) (ha : PE X e ta)
    (he : starEach [e, .Name x q] X.env = (false, eval e X.env) :: starEach [.Name x q] X.env := by rfl) (he2 : starEach [.Name x q] X.env = (false, eval (.Name x q) X.env) :: starEach [] X.env := by rfl) (hpl : (backTo pos (starEach [.Name x q] X.env)).any (·.1) = false := by rfl) :
    PE X (.Call (.Name "isinstance" p) [e, .Name x q] [] pos) (tCB (rIsi X.K) (tCons ta (tCons (tC (.ty t.nm)) tNil))) := by
  subst hx
  exact pe_callB call_isi hg hm (by decide +kernel) (pa_cons ha (pa_cons (zty t hg2 hm2) pa_nil he2) he) (he := he) (hpl := hpl)
end

section
variable {X : Cx} {c : RC} {kk cn : String} {i : Nat} {xc : Str} {a : Addr} {oe : Obj} {cls : Value} {d : Option Addr} {pn : List (Addr × Obj)} {p q pos : Pos} {e : Expr}
theorem zisx (hK : c.K = X.K) (hz : Zc cls d oe) (hf : ∃ vs, oe.data = .fields vs) (hg : Gl X "isinstance") (hm : X.mg "isinstance" = none) (hg2 : Gl X xc) (hm2 : X.mg xc = some (.ref (ca X.K cn))) (he : PE (X.suite a ((a, oe) :: pn)) e (tVar i))
    (hd : (xc == ("__debug__" : Str)) = false := by decide) (he1 : starEach [e, .Name xc q] X.env = (false, eval e X.env) :: starEach [.Name xc q] X.env := by rfl) (he2 : starEach [.Name xc q] X.env = (false, eval (.Name xc q) X.env) :: starEach [] X.env := by rfl) (hpl : (backTo pos (starEach [.Name xc q] X.env)).any (·.1) = false := by rfl) :
    PE (X.suite a ((a, oe) :: pn)) (.Call (.Name "isinstance" p) [e, .Name xc q] [] pos) (rdE (c.exc kk a cls d) (.isx i cn)) := by
  refine ⟨fun pins s σ H Q I h => ?_⟩
  obtain ⟨D, e1, e2, C, e3, b, kb, qq⟩ := h
  have e1' : cls = .ref D := e1
  have e2' : d = none := e2
  subst e1' e2'
  have C' : ExcC X.K D := by rw [← hK]; exact C
  have kb' : PySem.W.kitOne X.K (.ref D) (.ref (ca X.K cn)) = some b := by rw [← hK]; exact kb
  have pe := pe_callB (X := X.suite a ((a, oe) :: pn)) (pos := pos) (p := p) (call_isE (pn := pn) C' hz hf) hg hm (by decide +kernel) (pa_cons he (pa_cons (zglo (X := X.suite a ((a, oe) :: pn)) (pos := q) (v := .ref (ca X.K cn)) ⟨_, hm2, rfl⟩ hg2 hd) pa_nil he2) he1) (he := he1) (hpl := hpl)
  exact pe.run pins s σ H Q I ⟨.ref a, e3, .ref (ca X.K cn), .ref (ca X.K cn), b, rfl, fun u r => r, kb', qq⟩
theorem zisxB (hK : c.K = X.K) (hz : Zc cls d oe) (hf : ∃ vs, oe.data = .fields vs) (hg : Gl X "isinstance") (hm : X.mg "isinstance" = none) (hxc : xc = Str.ofString cn) (hg2 : Gl X xc) (hm2 : X.mg xc = none) (hbt : bootBuiltins xc = some (.type cn)) (hnn : (xc == ("__name__" : Str)) = false) (he : PE (X.suite a ((a, oe) :: pn)) e (tVar i))
    (hd : (xc == ("__debug__" : Str)) = false := by decide) (he1 : starEach [e, .Name xc q] X.env = (false, eval e X.env) :: starEach [.Name xc q] X.env := by rfl) (he2 : starEach [.Name xc q] X.env = (false, eval (.Name xc q) X.env) :: starEach [] X.env := by rfl) (hpl : (backTo pos (starEach [.Name xc q] X.env)).any (·.1) = false := by rfl) :
    PE (X.suite a ((a, oe) :: pn)) (.Call (.Name "isinstance" p) [e, .Name xc q] [] pos) (rdE (c.exc kk a cls d) (.isxB i cn)) := by
  refine ⟨fun pins s σ H Q I h => ?_⟩
  obtain ⟨D, e1, e2, C, e3, b, kb, qq⟩ := h
  have e1' : cls = .ref D := e1
  have e2' : d = none := e2
  subst e1' e2'
  have C' : ExcC X.K D := by rw [← hK]; exact C
  have kb' : PySem.W.kitOne X.K (.ref D) (.type cn) = some b := by rw [← hK]; exact kb
  have pt : PE (X.suite a ((a, oe) :: pn)) (.Name xc q) (tC (.ty cn)) := pe_bltn (u := .type cn) hg2 hm2 hbt rfl (by intro z; rw [z] at hnn; exact absurd hnn (by decide)) hd
  have pe := pe_callB (X := X.suite a ((a, oe) :: pn)) (pos := pos) (p := p) (call_isE (pn := pn) C' hz hf) hg hm (by decide +kernel) (pa_cons he (pa_cons pt pa_nil he2) he1) (he := he1) (hpl := hpl)
  exact pe.run pins s σ H Q I ⟨.ref a, e3, .ty cn, .type cn, b, rfl, fun u r => r, kb', qq⟩
end

section
variable {X : Cx} {pos : Pos}
theorem znm (i : Nat) {x : Str} (hN : X.N.Nodup) (hi : X.N[i]? = some x := by rfl) (hx : Loc X.env.scope x := by first | exact Or.inl rfl | exact Or.inr rfl) (hf : X.fn x = true ∨ X.env.scope.names.lookup x = some .local := by first | exact Or.inl rfl | exact Or.inr rfl) : L2.PG X (.Name x pos) (gName i) := pg_name hN hi hx hf
theorem zset (i : Nat) {x : Str} {e : Expr} {te : TE} {pos' : Pos} (hN : X.N.Nodup) (he : PE X e te) (hi : X.N[i]? = some x := by rfl) (hx : Loc X.env.scope x := by first | exact Or.inl rfl | exact Or.inr rfl)
    (hs : swapsWith e (some (.Name x pos')) pos.line X.env = pure false := by rfl) (hf : X.fn x = true ∨ X.env.scope.names.lookup x = some .local := by first | exact Or.inl rfl | exact Or.inr rfl) : PS X (.Assign [.Name x pos'] e pos) (tAsg te (gName i)) := ps_set hN hi hx he hs hf
theorem ztru {a : Expr} {ta : TE} (ha : PE X a ta) (he : ∀ whole, isTrue a X.env whole = (do let v ← whole; standAt a.pos; holding [v] (truthy v)) := by intro _; rfl) : PT X a (fun σ H Q => ta σ H fun x H' => ∃ k, TruV X.K x H' k ∧ Q k H') := pt_truth ha he
end
theorem fn_zero {P : Program} {w : World} {K : PySem.W.Frag} {mg : Str → Option Value} {base : Heap} {CX : CXT} {k : Nat} {f : Addr} {fd : FuncData} {ps : List Str} {PR : Prog} {nm : String} : FnOk P w K mg base CX k f fd ps (spR PR K 0 nm) :=
  ⟨fun vs H Q E h => (by obtain ⟨_, _, _, _, _, _, _, _, _, _, z, _⟩ := h; cases z), fun A outer s H args us vs Q E _ _ _ _ h => (by obtain ⟨_, _, _, _, _, _, _, _, _, _, z, _⟩ := h; cases z)⟩
end Z

set_option maxRecDepth 100000
set_option maxHeartbeats 2000000
namespace Z
open PySem PySem.Spec PyProof.Rows L2

def tupZ (K : PySem.W.Frag) (x : Str) (vs : List V) : Bool := match K.lookup (He.ga K x) with
  | some ⟨.type c, none, .seq its _, _⟩ => decide (c = "tuple") && (decide (its.size ≤ sizeLine) && He.relAll vs its.toList)
  | _ => false
abbrev AlZ : Type := He.AlD × Bool
def obsZ (n : Nat) (fa : List He.Fa) (fn : List He.DefD) (ex : PySem.W.Frag → Bool) (g : Addr → Option Obj) : AlZ := (He.obsD fa fn (He.frG g (He.asD g n)), ex (He.frG g (He.asD g n)))
structure SaysZ (fa : List He.Fa) (fn : List He.DefD) (ex : PySem.W.Frag → Bool) (K : PySem.W.Frag) : Prop where
  d : He.SaysD fa fn K
  more : ex K = true
def hookZ (n : Nat) (fa : List He.Fa) (fn : List He.DefD) (ex : PySem.W.Frag → Bool) : PySem.W.Hook where
  α := AlZ
  obs := fun s => obsZ n fa fn ex s.heap.get?
  val := fun _ => (He.valD fn, true)
  says := fun _ h => ∃ K : PySem.W.Frag, K.In h ∧ SaysZ fa fn ex K
  of := fun _ _ e => ⟨_, He.frG_in, ⟨congrArg (fun z : AlZ => z.1) e, congrArg (fun z : AlZ => z.2) e⟩⟩
  keeps := fun _ _ _ ⟨K, hK, c⟩ k => ⟨K, PySem.W.Frag.In.keeps hK k, c⟩
theorem obsZ_eq {n : Nat} {fa : List He.Fa} {fn : List He.DefD} {ex : PySem.W.Frag → Bool} {g : Addr → Option Obj} {s : Shared} (h : ∀ a, g a = s.heap.get? a) : obsZ n fa fn ex g = (hookZ n fa fn ex).obs s := by
  have e : g = s.heap.get? := funext h
  rw [e] <;> rfl
section
variable {K : PySem.W.Frag} {h : Heap} {mg : Str → Option Value}
theorem says_int (X : K.In h) (G : h.Ns mainGlobals mg) {x : Str} {i : Int} (c : (He.Fa.int x i).ok K = true) : Says mg x (.int i) := by
  obtain ⟨t, e⟩ := He.int_ok X G c
  exact ⟨_, e, t, rfl⟩
theorem says_str (X : K.In h) (G : h.Ns mainGlobals mg) {x z : Str} (c : (He.Fa.str x z).ok K = true) : Says mg x (.str z) := by
  obtain ⟨t, e⟩ := He.str_ok X G c
  exact ⟨_, e, t, rfl⟩
end

section
variable {P : Program} {w : World} {K : PySem.W.Frag} {mg : Str → Option Value} {base : Heap} {CX : CXT} {k : Nat} {f : Addr} {ps : List Str} {dvs : List V} {sp : Sp} {x qual : Str} {params : Arguments} {body : List Stmt} {scope : Scope} {kws : List (Str × V)} {fd : FuncData}
theorem cal_of (F : FunD K x qual params body scope [] kws f fd) (ok : FnOk P w K mg base CX k f fd ps sp)
    (h : ∀ (kV doc pm : Value) (an : Option Addr) (cdv ct : Value) (us : List Value), us.length = ps.length → bindArgs (PySem.W.fnOf x qual params body scope .none kV doc pm an cdv ct) ⟨us, []⟩ = pure (ps.zip us)) : Cal P w K mg base CX k f ps [] sp :=
  ⟨⟨fd, [], ok, .nil, F.bindsN h⟩, F.kp⟩
end

theorem ok0 {P : Program} {w : World} {K : PySem.W.Frag} {mg : Str → Option Value} {base : Heap} {k : Nat} {f : Addr} {fd : FuncData} {ps : List Str} {sp : Sp} (F : FnOk P w K mg base (L2.CX P w) k f fd ps sp) : FnOk P w K mg base CX0 k f fd ps (fun vs H Q _ => sp vs H Q fun _ _ _ => False) :=
  ⟨fun vs H Q _ h => F.len vs H Q _ h, fun A outer s H args us vs Q E hr he hb hv hs => codeAny_mono (F.run A outer s H args us vs Q _ hr he hb hv hs) fun res s' hq => by
    match res, hq with
    | .error e, hq =>
      obtain ⟨_, _, _, _, _, _, _, _, _, _, _, _, z⟩ := hq
      exact z
    | .ok (.ret u), hq => exact hq⟩
def h0 (ns : List Int) : Hm := ⟨fun b => if b = 0 then some (.fz (ns.map D.int)) else none, 1⟩
theorem sim0 {K : PySem.W.Frag} {H : Hp} {a : Addr} {ns : List Int} (hO : Only H) (h : SqL K H a (ns.map V.int)) : Sim K (fun _ => a) (h0 ns) H := by
  have hf : SqF K H a (ns.map V.int) := by
    rcases h with (h | h) | h
    · rcases hO a with q | ⟨o, xs, q⟩
      · rw [q] at h; cases h
      · rw [q] at h; cases h
    · exact .inl h
    · exact .inr h
  refine ⟨fun b o hb => ?_, fun b c ob oc hb hc mb mc e => ?_⟩
  · simp only [h0] at hb
    split at hb
    · rename_i e
      cases hb
      subst e
      exact ⟨Nat.lt_succ_self 0, _, hf, repInts ns⟩
    · cases hb
  · simp only [h0] at hb hc
    split at hb
    · cases hb; cases mb
    · cases hb
theorem law_sp {P : Prog} {K : PySem.W.Frag} {N n : Nat} {F : Fn} (hf : P.fn "law" = some F) (hn : F.np = 1)
    (sol : ∀ ns : List Int, ns.length ≤ n → ∃ h', callF P N "law" [.ref 0] (h0 ns) = some (.ok (.bl true), h')) (H : Hp) (a : Addr) (ns : List Int) (hl : ns.length ≤ n) (hO : Only H) (hS : SqL K H a (ns.map V.int)) :
    spR P K N "law" [.ref a] H (fun v _ => v = .bl true) fun _ _ _ => False := by
  obtain ⟨h', e⟩ := sol ns hl
  refine ⟨F, fun _ => a, h0 ns, [.ref 0], _, h', hf, hn.symm, sim0 hO hS, .cons (.ref (r := fun _ => a) (Nat.lt_succ_self 0)) .nil, e, ?_⟩
  intro v r' H' S x q
  cases q
  rfl
end Z

set_option maxRecDepth 100000
set_option maxHeartbeats 2000000
namespace Z
open PySem
section
variable {P : Prog} {cl : Cl} {env : Env} {h h' : Hm}
theorem callF_eq {n : Nat} {f : String} {F : Fn} {ds : List D} (hf : P.fn f = some F) (hl : ds.length = F.np) : callF P (n + 1) f ds h = endF (ex P (callF P n) F.body (start F.ns ds) h) := by
  simp only [callF, hf, if_pos hl]
@[simp] theorem ofS_eq (a b : String) : (Str.ofString a = Str.ofString b) ↔ a = b := ⟨fun e => ofString_inj e, fun e => by rw [e]⟩
@[simp] theorem ok_def {α : Type} (x : α) (h : Hm) : ok x h = some (.ok x, h) := id rfl
@[simp] theorem nxt_def (env : Env) (h : Hm) : nxt env h = some (.nx, env, h) := id rfl
@[simp] theorem liftO_some {α : Type} (x : α) (h : Hm) : liftO (some x) h = some (.ok x, h) := id rfl
@[simp] theorem liftO_none {α : Type} (h : Hm) : liftO (none : Option α) h = none := id rfl
@[simp] theorem endF_nx : endF (some (.nx, env, h)) = some (.ok .non, h) := id rfl
@[simp] theorem endF_rt (d : D) : endF (some (.rt d, env, h)) = some (.ok d, h) := id rfl
@[simp] theorem endF_ex (k : String) : endF (some (.ex k, env, h)) = some (.error k, h) := id rfl
@[simp] theorem start_def (n : Nat) (ds : List D) : start n ds = ds.map some ++ List.replicate (n - ds.length) none := id rfl
@[simp] theorem cd_non : Cst.d .non = .non := id rfl
@[simp] theorem cd_bl (b : Bool) : Cst.d (.bl b) = .bl b := id rfl
@[simp] theorem cd_int (b : Int) : Cst.d (.int b) = .int b := id rfl
@[simp] theorem cd_str (b : String) : Cst.d (.str b) = .str (Str.ofString b) := id rfl
end
set_option checkBinderAnnotations false
def bndI {α β : Type} (m : Res α) [f : α → Hm → Res β] : Res β := bnd m f
def toSI {α : Type} (m : Res α) (env : Env) [f : α → Hm → Out] : Out := toS m env f
def thenSI (m : Out) [f : Env → Hm → Out] : Out := thenS m f
def optB {β : Type} (m : Option Bool) [a : Option β] [b : Option β] : Option β := match m with
  | some true => a
  | some false => b
  | none => none
def someI {α β : Type} (m : Option α) [f : α → Option β] : Option β := match m with
  | some x => f x
  | none => none
def insB {β : Type} (m : Option O) [f : String → List (String × D) → Option β] : Option β := match m with
  | some (.ins c fs) => f c fs
  | _ => none
def lstI {β : Type} (m : Option O) [f : List D → Option β] : Option β := match m with
  | some (.lst xs) => f xs
  | _ => none
def tupI {β : Type} (m : Option D) [f : List D → Option β] : Option β := match m with
  | some (.tup xs) => f xs
  | _ => none
def mtI {β : Type} (m : Option String) (o : Option D) [f : String → Option β] : Option β := match m, o with
  | some g, none => f g
  | _, _ => none
def walkI {β : Type} (m : Option (List D × List (Nat × O))) [f : List D → List (Nat × O) → Option β] : Option β := match m with
  | some (items, gd) => f items gd
  | none => none
def dgtO (m : Option (Option D)) (h : Hm) : Res D := match m with
  | some (some v) => ok v h
  | _ => none
def getV (env : Env) (i : Nat) (h : Hm) : Res D := match env[i]? with
  | some (some d) => ok d h
  | _ => none
section
variable {α β : Type} {h : Hm} {env : Env}
@[simp] theorem bndI_ok (a : α) (f : α → Hm → Res β) : @bndI α β (some (.ok a, h)) f = f a h := id rfl
@[simp] theorem bndI_er (k : String) (f : α → Hm → Res β) : @bndI α β (some (.error k, h)) f = some (.error k, h) := id rfl
@[simp] theorem bndI_no (f : α → Hm → Res β) : @bndI α β none f = none := id rfl
@[simp] theorem bndI_if (c : Prop) [Decidable c] (a b : Res α) (f : α → Hm → Res β) : @bndI α β (if c then a else b) f = if c then @bndI α β a f else @bndI α β b f := by split <;> rfl
@[simp] theorem toSI_ok (a : α) (f : α → Hm → Out) : @toSI α (some (.ok a, h)) env f = f a h := id rfl
@[simp] theorem toSI_er (k : String) (f : α → Hm → Out) : @toSI α (some (.error k, h)) env f = some (.ex k, env, h) := id rfl
@[simp] theorem toSI_no (f : α → Hm → Out) : @toSI α none env f = none := id rfl
@[simp] theorem toSI_if (c : Prop) [Decidable c] (a b : Res α) (f : α → Hm → Out) : @toSI α (if c then a else b) env f = if c then @toSI α a env f else @toSI α b env f := by split <;> rfl
@[simp] theorem thenSI_nx (f : Env → Hm → Out) : @thenSI (some (.nx, env, h)) f = f env h := id rfl
@[simp] theorem thenSI_rt (d : D) (f : Env → Hm → Out) : @thenSI (some (.rt d, env, h)) f = some (.rt d, env, h) := id rfl
@[simp] theorem thenSI_ex (k : String) (f : Env → Hm → Out) : @thenSI (some (.ex k, env, h)) f = some (.ex k, env, h) := id rfl
@[simp] theorem thenSI_no (f : Env → Hm → Out) : @thenSI none f = none := id rfl
@[simp] theorem thenSI_if (c : Prop) [Decidable c] (a b : Out) (f : Env → Hm → Out) : @thenSI (if c then a else b) f = if c then @thenSI a f else @thenSI b f := by split <;> rfl
@[simp] theorem endF_if (c : Prop) [Decidable c] (a b : Out) : endF (if c then a else b) = if c then endF a else endF b := by split <;> rfl
@[simp] theorem optB_t (a b : Option β) : @optB β (some true) a b = a := id rfl
@[simp] theorem optB_f (a b : Option β) : @optB β (some false) a b = b := id rfl
@[simp] theorem optB_d (c : Prop) [Decidable c] (a b : Option β) : @optB β (some (decide c)) a b = if c then a else b := by by_cases hc : c <;> simp [hc]
@[simp] theorem someI_some (x : α) (f : α → Option β) : @someI α β (some x) f = f x := id rfl
@[simp] theorem someI_none (f : α → Option β) : @someI α β none f = none := id rfl
@[simp] theorem insB_ins (c : String) (fs : List (String × D)) (f : String → List (String × D) → Option β) : @insB β (some (.ins c fs)) f = f c fs := id rfl
@[simp] theorem lstI_lst (xs : List D) (f : List D → Option β) : @lstI β (some (.lst xs)) f = f xs := id rfl
@[simp] theorem tupI_tup (xs : List D) (f : List D → Option β) : @tupI β (some (.tup xs)) f = f xs := id rfl
@[simp] theorem mtI_some (g : String) (f : String → Option β) : @mtI β (some g) none f = f g := id rfl
@[simp] theorem walkI_some (items : List D) (gd : List (Nat × O)) (f : List D → List (Nat × O) → Option β) : @walkI β (some (items, gd)) f = f items gd := id rfl
@[simp] theorem dgtO_some (v : D) : dgtO (some (some v)) h = some (.ok v, h) := id rfl
@[simp] theorem getV_zero (d : D) (env : Env) : getV (some d :: env) 0 h = some (.ok d, h) := id rfl
@[simp] theorem getV_succ (x : Option D) (env : Env) (i : Nat) : getV (x :: env) (i + 1) h = getV env i h := id rfl
end
section
variable {P : Prog} {cl : Cl} {env : Env} {h h' : Hm}
@[simp] theorem ev_var (i : Nat) : ev P cl (.var i) env h = getV env i h := by (try simp only [ev, bndI, insB, mtI, someI, tupI, walkI, optB, lstI, dgtO, getV]) <;> (first | done | rfl)
@[simp] theorem ev_con (c : Cst) : ev P cl (.con c) env h = ok c.d h := by (try simp only [ev, bndI, insB, mtI, someI, tupI, walkI, optB, lstI, dgtO, getV]) <;> (first | done | rfl)
@[simp] theorem ev_glo (x : String) : ev P cl (.glo x) env h = liftO (P.glob x) h := by (try simp only [ev, bndI, insB, mtI, someI, tupI, walkI, optB, lstI, dgtO, getV]) <;> (first | done | rfl)
@[simp] theorem ev_bin (o : Bop) (a b : E) : ev P cl (.bin o a b) env h = @bndI _ _ (ev P cl a env h) fun x h1 => @bndI _ _ (ev P cl b env h1) fun y h2 => binD o x y h2 := by (try simp only [ev, bndI, insB, mtI, someI, tupI, walkI, optB, lstI, dgtO, getV]) <;> (first | done | rfl)
@[simp] theorem ev_neg (a : E) : ev P cl (.neg a) env h = @bndI _ _ (ev P cl a env h) negD := by (try simp only [ev, bndI, insB, mtI, someI, tupI, walkI, optB, lstI, dgtO, getV]) <;> (first | done | rfl)
@[simp] theorem ev_cmp (o : Cop) (a b : E) : ev P cl (.cmp o a b) env h = @bndI _ _ (ev P cl a env h) fun x h1 => @bndI _ _ (ev P cl b env h1) fun y h2 => liftO ((cmpD o x y h2).map .bl) h2 := by (try simp only [ev, bndI, insB, mtI, someI, tupI, walkI, optB, lstI, dgtO, getV]) <;> (first | done | rfl)
@[simp] theorem ev_chn (o o' : Cop) (a b c : E) : ev P cl (.chn o o' a b c) env h = @bndI _ _ (ev P cl a env h) fun x h1 => @bndI _ _ (ev P cl b env h1) fun y h2 => @optB _ (cmpD o x y h2) (@bndI _ _ (ev P cl c env h2) fun z h3 => liftO ((cmpD o' y z h3).map .bl) h3) (ok (.bl false) h2) := by (try simp only [ev, bndI, insB, mtI, someI, tupI, walkI, optB, lstI, dgtO, getV]) <;> (first | done | rfl)
@[simp] theorem ev_and (a b : E) : ev P cl (.and a b) env h = @bndI _ _ (ev P cl a env h) fun x h1 => (match x with
    | .bl true => ev P cl b env h1
    | .bl false => ok (.bl false) h1
    | _ => none) := by (try simp only [ev, bndI, insB, mtI, someI, tupI, walkI, optB, lstI, dgtO, getV]) <;> (first | done | rfl)
@[simp] theorem ev_or (a b : E) : ev P cl (.or a b) env h = @bndI _ _ (ev P cl a env h) fun x h1 => (match x with
    | .bl true => ok (.bl true) h1
    | .bl false => ev P cl b env h1
    | _ => none) := by (try simp only [ev, bndI, insB, mtI, someI, tupI, walkI, optB, lstI, dgtO, getV]) <;> (first | done | rfl)
@[simp] theorem ev_not (a : E) : ev P cl (.not a) env h = @bndI _ _ (ev P cl a env h) fun x h1 => (match x with
    | .bl b => ok (.bl (!b)) h1
    | _ => none) := by (try simp only [ev, bndI, insB, mtI, someI, tupI, walkI, optB, lstI, dgtO, getV]) <;> (first | done | rfl)
@[simp] theorem ev_ife (c : T) (a b : E) : ev P cl (.ife c a b) env h = @bndI _ _ (evT P cl c env h) fun k h1 => if k = true then ev P cl a env h1 else ev P cl b env h1 := by (try simp only [ev, bndI, insB, mtI, someI, tupI, walkI, optB, lstI, dgtO, getV]) <;> (first | done | rfl)
@[simp] theorem ev_idx (a b : E) : ev P cl (.idx a b) env h = @bndI _ _ (ev P cl a env h) fun x h1 => @bndI _ _ (ev P cl b env h1) fun y h2 => liftO (idxD x y h2) h2 := by (try simp only [ev, bndI, insB, mtI, someI, tupI, walkI, optB, lstI, dgtO, getV]) <;> (first | done | rfl)
@[simp] theorem ev_dgt (a b : E) : ev P cl (.dgt a b) env h = @bndI _ _ (ev P cl a env h) fun x h1 => @bndI _ _ (ev P cl b env h1) fun y h2 => (match x with
    | .ref p => dgtO (dget h2 p y) h2
    | _ => none) := by (try simp only [ev, bndI, insB, mtI, someI, tupI, walkI, optB, lstI, dgtO, getV]) <;> (first | done | rfl)
@[simp] theorem ev_slc (a : E) (lo hi : Eo) : ev P cl (.slc a lo hi) env h = @bndI _ _ (ev P cl a env h) fun x h1 => @bndI _ _ (evO P cl lo env h1) fun l h2 => @bndI _ _ (evO P cl hi env h2) fun u h3 => slcD x l u h3 := by (try simp only [ev, bndI, insB, mtI, someI, tupI, walkI, optB, lstI, dgtO, getV]) <;> (first | done | rfl)
@[simp] theorem ev_att (a : E) (f : String) : ev P cl (.att a f) env h = @bndI _ _ (ev P cl a env h) fun x h1 => (match x with
    | .ref p => @insB _ (h1.get p) fun c fs => if P.fld c f = true then liftO (fs.lookup f) h1 else none
    | _ => none) := by (try simp only [ev, bndI, insB, mtI, someI, tupI, walkI, optB, lstI, dgtO, getV]) <;> (first | done | rfl)
@[simp] theorem ev_tup (es : Es) : ev P cl (.tup es) env h = @bndI _ _ (evs P cl es env h) fun vs h1 => if vs.length ≤ 1000000 then ok (.tup vs) h1 else none := by (try simp only [ev, bndI, insB, mtI, someI, tupI, walkI, optB, lstI, dgtO, getV]) <;> (first | done | rfl)
@[simp] theorem ev_lst (es : Es) : ev P cl (.lst es) env h = @bndI _ _ (evs P cl es env h) fun vs h1 => if vs.length ≤ 1000000 then ok (.ref h1.next) (h1.new (.lst vs)) else none := by (try simp only [ev, bndI, insB, mtI, someI, tupI, walkI, optB, lstI, dgtO, getV]) <;> (first | done | rfl)
@[simp] theorem ev_dict0 : ev P cl (.dict .nil) env h = ok (.ref h.next) (h.new (.dic [])) := by (try simp only [ev, bndI, insB, mtI, someI, tupI, walkI, optB, lstI, dgtO, getV]) <;> (first | done | rfl)
@[simp] theorem ev_disp (a : E) (es : Es) : ev P cl (.dict (.cons a es)) env h = if (Es.cons a es).len % 2 = 0 then @bndI _ _ (evs P cl (.cons a es) env (h.new (.dic []))) fun vs h1 => dispO (h1.get h.next) (pairUp vs) h1 h.next else none := by rw [ev]; rfl; intro z; cases z
@[simp] theorem ev_call (f : String) (es : Es) (ds : List Cst) : ev P cl (.call f es ds) env h = @bndI _ _ (evs P cl es env h) fun vs h1 => cl f (vs ++ ds.map Cst.d) h1 := by (try simp only [ev, bndI, insB, mtI, someI, tupI, walkI, optB, lstI, dgtO, getV]) <;> (first | done | rfl)
@[simp] theorem ev_meth (o : E) (m : String) (es : Es) (ds : List Cst) : ev P cl (.meth o m es ds) env h = @bndI _ _ (ev P cl o env h) fun x h1 => (match x with
    | .ref p => @insB _ (h1.get p) fun c fs => @mtI _ (P.mt c m) (fs.lookup m) fun f => @bndI _ _ (evs P cl es env h1) fun vs h2 => cl f (.ref p :: (vs ++ ds.map Cst.d)) h2
    | _ => none) := by (try simp only [ev, bndI, insB, mtI, someI, tupI, walkI, optB, lstI, dgtO, getV]) <;> (first | done | rfl)
@[simp] theorem ev_new (c : String) (es : Es) : ev P cl (.new c es) env h = @bndI _ _ (evs P cl es env h) fun vs h1 => @someI _ _ (P.mt c "__init__") fun f => @bndI _ _ (cl f (.ref h1.next :: vs) (h1.new (.ins c []))) fun x h2 => (match x with
      | .non => ok (.ref h1.next) h2
      | _ => none) := by
  rw [ev]
  refine congrArg (bnd _) (funext fun vs => funext fun h1 => ?_)
  cases P.mt c "__init__" <;> rfl
@[simp] theorem ev_bi (b : Bi) (es : Es) : ev P cl (.bi b es) env h = @bndI _ _ (evs P cl es env h) fun vs h1 => biD b vs h1 := by (try simp only [ev, bndI, insB, mtI, someI, tupI, walkI, optB, lstI, dgtO, getV]) <;> (first | done | rfl)
@[simp] theorem ev_bm (b : Bm) (o : E) (es : Es) : ev P cl (.bm b o es) env h = @bndI _ _ (ev P cl o env h) fun x h1 => if rcv b x h1 = true then @bndI _ _ (evs P cl es env h1) fun vs h2 => bmD b x vs h2 else none := by (try simp only [ev, bndI, insB, mtI, someI, tupI, walkI, optB, lstI, dgtO, getV]) <;> (first | done | rfl)
@[simp] theorem ev_gix (x : String) (e : E) : ev P cl (.gix x e) env h = @tupI _ (P.glob x) fun xs => @bndI _ _ (ev P cl e env h) fun y h1 => gixD (.tup xs) y h1 := by (try simp only [ev, bndI, insB, mtI, someI, tupI, walkI, optB, lstI, dgtO, getV]) <;> (first | done | rfl)
@[simp] theorem ev_isi (a : E) (t : Tn) : ev P cl (.isi a t) env h = @bndI _ _ (ev P cl a env h) fun x h1 => liftO ((tyN x h1).map fun n => .bl (isTn n t)) h1 := by (try simp only [ev, bndI, insB, mtI, someI, tupI, walkI, optB, lstI, dgtO, getV]) <;> (first | done | rfl)
@[simp] theorem ev_isi2 (a : E) (t u : Tn) : ev P cl (.isi2 a t u) env h = @bndI _ _ (ev P cl a env h) fun x h1 => liftO ((tyN x h1).map fun n => .bl (isTn n t || isTn n u)) h1 := by (try simp only [ev, bndI, insB, mtI, someI, tupI, walkI, optB, lstI, dgtO, getV]) <;> (first | done | rfl)
@[simp] theorem ev_comp (elt : E) (own : List Nat) (g : Tg) (k : ItK) (es : Es) (tst : T) : ev P cl (.comp elt own g k es tst) env h = @bndI _ _ (evs P cl es env h) fun vs h1 => @walkI _ (walk k vs h1) fun items gd => if g.in_ own = true then compL (fun e1 h2 => ev P cl elt e1 h2) (fun e1 h2 => evT P cl tst e1 h2) g gd h1.next (wipeE env own) items (h1.new (.lst [])) else none := by (try simp only [ev, bndI, insB, mtI, someI, tupI, walkI, optB, lstI, dgtO, getV]) <;> (first | done | rfl)
@[simp] theorem ev_cpx (elt : E) (own : List Nat) (g : Tg) (k : ItK) (es : Es) (tst : T) : ev P cl (.cpx elt own g k es tst) env h = @bndI _ _ (evs P cl es env h) fun vs h1 => @walkI _ (walk k vs h1) fun items gd => if g.in_ own = true then compX (fun e1 h2 => ev P cl elt e1 h2) (fun e1 h2 => evT P cl tst e1 h2) g gd h1.next (wipeE env own) items (h1.new (.lst [])) else none := by (try simp only [ev, bndI, insB, mtI, someI, tupI, walkI, optB, lstI, dgtO, getV]) <;> (first | done | rfl)
@[simp] theorem evs_nil : evs P cl .nil env h = ok [] h := by (try simp only [evs]) <;> rfl
@[simp] theorem evs_cons (e : E) (es : Es) : evs P cl (.cons e es) env h = @bndI _ _ (ev P cl e env h) fun x h1 => @bndI _ _ (evs P cl es env h1) fun xs h2 => ok (x :: xs) h2 := by (try simp only [evs]) <;> rfl
@[simp] theorem evO_none : evO P cl .none env h = ok none h := by (try simp only [evO]) <;> rfl
@[simp] theorem evO_some (e : E) : evO P cl (.some e) env h = @bndI _ _ (ev P cl e env h) fun x h1 => (match x with
    | .int i => ok (some i) h1
    | _ => none) := by (try simp only [evO]) <;> rfl
@[simp] theorem evT_yes : evT P cl .yes env h = ok true h := by (try simp only [evT, bndI, optB]) <;> (first | done | rfl)
@[simp] theorem evT_cmp (o : Cop) (a b : E) : evT P cl (.cmp o a b) env h = @bndI _ _ (ev P cl a env h) fun x h1 => @bndI _ _ (ev P cl b env h1) fun y h2 => liftO (cmpD o x y h2) h2 := by (try simp only [evT, bndI, optB]) <;> (first | done | rfl)
@[simp] theorem evT_chn (o o' : Cop) (a b c : E) : evT P cl (.chn o o' a b c) env h = @bndI _ _ (ev P cl a env h) fun x h1 => @bndI _ _ (ev P cl b env h1) fun y h2 => @optB _ (cmpD o x y h2) (@bndI _ _ (ev P cl c env h2) fun z h3 => liftO (cmpD o' y z h3) h3) (ok false h2) := by (try simp only [evT, bndI, optB]) <;> (first | done | rfl)
@[simp] theorem evT_and (a b : T) : evT P cl (.and a b) env h = @bndI _ _ (evT P cl a env h) fun k h1 => if k = true then evT P cl b env h1 else ok false h1 := by (try simp only [evT, bndI, optB]) <;> (first | done | rfl)
@[simp] theorem evT_or (a b : T) : evT P cl (.or a b) env h = @bndI _ _ (evT P cl a env h) fun k h1 => if k = true then ok true h1 else evT P cl b env h1 := by (try simp only [evT, bndI, optB]) <;> (first | done | rfl)
@[simp] theorem evT_not (a : T) : evT P cl (.not a) env h = @bndI _ _ (evT P cl a env h) fun k h1 => ok (!k) h1 := by (try simp only [evT, bndI, optB]) <;> (first | done | rfl)
@[simp] theorem evT_tru (a : E) : evT P cl (.tru a) env h = @bndI _ _ (ev P cl a env h) fun x h1 => liftO (truD x h1) h1 := by (try simp only [evT, bndI, optB]) <;> (first | done | rfl)
@[simp] theorem ex_skip : ex P cl .skip env h = nxt env h := by (try simp only [ex, toSI, thenSI, insB, someI, walkI, lstI, getV]) <;> (first | done | rfl)
@[simp] theorem ex_seq (a b : S) : ex P cl (.seq a b) env h = @thenSI (ex P cl a env h) fun env1 h1 => ex P cl b env1 h1 := by (try simp only [ex, toSI, thenSI, insB, someI, walkI, lstI, getV]) <;> (first | done | rfl)
@[simp] theorem ex_asg (i : Nat) (e : E) : ex P cl (.asg i e) env h = @toSI _ (ev P cl e env h) env fun x h1 => nxt (env.set i (some x)) h1 := by (try simp only [ex, toSI, thenSI, insB, someI, walkI, lstI, getV]) <;> (first | done | rfl)
@[simp] theorem ex_unp (is : List Nat) (e : E) : ex P cl (.unp is e) env h = @toSI _ (ev P cl e env h) env fun x h1 => @someI _ _ (seqOf x h1) fun xs => @someI _ _ (setN env is xs) fun env1 => nxt env1 h1 := by
  rw [ex]
  refine congrArg (toS _ _) (funext fun x => funext fun h1 => ?_)
  cases seqOf x h1 with
  | none => rfl
  | some xs => dsimp only [someI]; cases e : setN env is xs <;> simp only [e] <;> rfl
@[simp] theorem ex_sfld (o : E) (f : String) (e : E) : ex P cl (.sfld o f e) env h = @toSI _ (ev P cl e env h) env fun x h1 => @toSI _ (ev P cl o env h1) env fun y h2 => (match y with
    | .ref p => @insB _ (h2.get p) fun c fs => if P.fld c f = true ∧ fs.length < 1000 then nxt env (h2.put p (.ins c (setF fs f x))) else none
    | _ => none) := by (try simp only [ex, toSI, thenSI, insB, someI, walkI, lstI, getV]) <;> (first | done | rfl)
@[simp] theorem ex_sidx (o i e : E) : ex P cl (.sidx o i e) env h = @toSI _ (ev P cl e env h) env fun x h1 => @toSI _ (ev P cl o env h1) env fun y h2 => @toSI _ (ev P cl i env h2) env fun z h3 => (match y, z with
    | .ref p, .int k => @lstI _ (h3.get p) fun xs => @someI _ _ (ixD xs.length k) fun j => nxt env (h3.put p (.lst (xs.set j x)))
    | _, _ => none) := by
  rw [ex]
  refine congrArg (toS _ _) (funext fun x => funext fun h1 => congrArg (toS _ _) (funext fun y => funext fun h2 => congrArg (toS _ _) (funext fun z => funext fun h3 => ?_)))
  cases y <;> try rfl
  cases z <;> try rfl
  rename_i p k
  dsimp only
  cases e1 : h3.get p with
  | none => rfl
  | some o =>
    cases o <;> try rfl
    rename_i xs
    dsimp only [someI, lstI]
    cases e : ixD xs.length k <;> simp only [e] <;> rfl
@[simp] theorem ex_dput (o i e : E) : ex P cl (.dput o i e) env h = @toSI _ (ev P cl e env h) env fun x h1 => @toSI _ (ev P cl o env h1) env fun y h2 => @toSI _ (ev P cl i env h2) env fun z h3 => (match y with
    | .ref p => @someI _ _ (dput h3 p z x) fun h4 => nxt env h4
    | _ => none) := by
  rw [ex]
  refine congrArg (toS _ _) (funext fun x => funext fun h1 => congrArg (toS _ _) (funext fun y => funext fun h2 => congrArg (toS _ _) (funext fun z => funext fun h3 => ?_)))
  cases y <;> try rfl
  rename_i p
  dsimp only [someI]
  cases e : dput h3 p z x <;> simp only [e] <;> rfl
@[simp] theorem ex_aug (i : Nat) (o : Bop) (e : E) : ex P cl (.aug i o e) env h = @toSI _ (getV env i h) env fun x _ => @toSI _ (ev P cl e env h) env fun y h1 => @someI _ _ (augD o x y) fun z => nxt (env.set i (some z)) h1 := by
  rw [ex]
  unfold getV
  cases e1 : env[i]? with
  | none => simp only [e1] <;> rfl
  | some v =>
    cases v with
    | none => simp only [e1] <;> rfl
    | some x =>
      simp only [e1]
      show _ = toS (ev P cl e env h) env _
      refine congrArg (toS _ _) (funext fun y => funext fun h1 => ?_)
      cases e2 : augD o x y <;> simp only [e2] <;> rfl
@[simp] theorem ex_augf (o : E) (f : String) (op : Bop) (e : E) : ex P cl (.augf o f op e) env h = @toSI _ (ev P cl o env h) env fun y h1 => (match y with
    | .ref p => @insB _ (h1.get p) fun c fs => if P.fld c f = true then @someI _ _ (fs.lookup f) fun x => @toSI _ (ev P cl e env h1) env fun v h2 => @someI _ _ (augD op x v) fun z => @insB _ (h2.get p) fun c' fs' => if c' = c ∧ fs'.length < 1000 then nxt env (h2.put p (.ins c (setF fs' f z))) else none else none
    | _ => none) := by
  rw [ex]
  refine congrArg (toS _ _) (funext fun y => funext fun h1 => ?_)
  cases y <;> try rfl
  rename_i p
  dsimp only
  cases e1 : h1.get p with
  | none => rfl
  | some ob =>
    cases ob <;> try rfl
    rename_i c fs
    show (if _ then _ else _) = if _ then _ else _
    by_cases hf : P.fld c f = true
    · rw [if_pos hf, if_pos hf]
      cases e2 : fs.lookup f with
      | none => simp only [e2] <;> rfl
      | some x =>
        simp only [e2]
        show _ = toS (ev P cl e env h1) env _
        refine congrArg (toS _ _) (funext fun v => funext fun h2 => ?_)
        cases e3 : augD op x v <;> simp only [e3] <;> rfl
    · rw [if_neg hf, if_neg hf]
@[simp] theorem ex_ite (c : T) (a b : S) : ex P cl (.ite c a b) env h = @toSI _ (evT P cl c env h) env fun k h1 => if k = true then ex P cl a env h1 else ex P cl b env h1 := by (try simp only [ex, toSI, thenSI, insB, someI, walkI, lstI, getV]) <;> (first | done | rfl)
@[simp] theorem ex_for (g : Tg) (k : ItK) (es : Es) (body : S) : ex P cl (.for_ g k es body) env h = @toSI _ (evs P cl es env h) env fun vs h1 => @walkI _ (walk k vs h1) fun items gd => forL (fun e1 h2 => ex P cl body e1 h2) g gd items env h1 := by (try simp only [ex, toSI, thenSI, insB, someI, walkI, lstI, getV]) <;> (first | done | rfl)
@[simp] theorem ex_wh (c : T) (body : S) : ex P cl (.wh c body) env h = whl (fun e1 h1 => evT P cl c e1 h1) (fun e1 h1 => ex P cl body e1 h1) P.lf env h := by (try simp only [ex, toSI, thenSI, insB, someI, walkI, lstI, getV]) <;> (first | done | rfl)
@[simp] theorem ex_ret (e : E) : ex P cl (.ret e) env h = @toSI _ (ev P cl e env h) env fun x h1 => some (.rt x, env, h1) := by (try simp only [ex, toSI, thenSI, insB, someI, walkI, lstI, getV]) <;> (first | done | rfl)
@[simp] theorem ex_drop (e : E) : ex P cl (.drop e) env h = @toSI _ (ev P cl e env h) env fun _ h1 => nxt env h1 := by (try simp only [ex, toSI, thenSI, insB, someI, walkI, lstI, getV]) <;> (first | done | rfl)
@[simp] theorem ex_rai (c : String) : ex P cl (.rai c) env h = some (.ex c, env, h) := by (try simp only [ex, toSI, thenSI, insB, someI, walkI, lstI, getV]) <;> (first | done | rfl)
end


@[simp] theorem esl_nil : Es.len .nil = 0 := id rfl
@[simp] theorem esl_cons (a : E) (es : Es) : Es.len (.cons a es) = es.len + 1 := id rfl
@[simp] theorem pairUp_nil : pairUp [] = some [] := id rfl
@[simp] theorem pairUp_i (i : Int) (v : D) (r : List D) : pairUp (.int i :: v :: r) = (pairUp r).map fun ps => (.inl i, v) :: ps := by
  cases h : pairUp r <;> simp [pairUp, key?, h]
@[simp] theorem pairUp_s (i : Str) (v : D) (r : List D) : pairUp (.str i :: v :: r) = (pairUp r).map fun ps => (.inr i, v) :: ps := by
  cases h : pairUp r <;> simp [pairUp, key?, h]
@[simp] theorem dispO_d (kvs : List (L2.Key × D)) (h1 : Hm) (a : Nat) (c : kvs.length ≤ 15) : dispO (some (.dic [])) (some kvs) h1 a = some (.ok (.ref a), h1.put a (.dic (kmerge [] kvs))) := if_pos c
section
variable {h : Hm} {i j : Int}
@[simp] theorem b_add : binD .add (.int i) (.int j) h = some (.ok (.int (i + j)), h) := id rfl
@[simp] theorem b_sub : binD .sub (.int i) (.int j) h = some (.ok (.int (i - j)), h) := id rfl
@[simp] theorem b_mul (c : (-(2 ^ 64) < i ∧ i < 2 ^ 64) ∨ (-(2 ^ 64) < j ∧ j < 2 ^ 64) ∨ ((-(2 ^ 250) < i ∧ i < 2 ^ 250) ∧ -(2 ^ 250) < j ∧ j < 2 ^ 250)) : binD .mul (.int i) (.int j) h = some (.ok (.int (i * j)), h) := if_pos c
@[simp] theorem b_fdiv (c : 0 < j ∧ j < 2 ^ 250) : binD .fdiv (.int i) (.int j) h = some (.ok (.int (i / j)), h) := if_pos c
@[simp] theorem b_mod (c : 0 < j) : binD .mod (.int i) (.int j) h = some (.ok (.int (i % j)), h) := if_pos c
@[simp] theorem b_pow2 : binD .pow (.int 2) (.int 64) h = some (.ok (.int 18446744073709551616), h) := by
  have c : 0 ≤ (64 : Int) ∧ (64 : Int) ≤ 1000000 ∧ w64 2 := by unfold w64; omega
  simp only [binD]
  rw [if_pos c]
  rfl
@[simp] theorem b_shl (c : 0 ≤ j ∧ j ≤ 1000000 ∧ -(2 ^ 64) < i ∧ i < 2 ^ 64) : binD .shl (.int i) (.int j) h = some (.ok (.int (i * 2 ^ j.toNat)), h) := if_pos ⟨c.1, c.2.1, c.2.2⟩
@[simp] theorem b_shr (c : 0 ≤ j) : binD .shr (.int i) (.int j) h = some (.ok (.int (i / 2 ^ j.toNat)), h) := if_pos c
@[simp] theorem b_band : binD .band (.int i) (.int j) h = some (.ok (.int (Builtin.bitAnd i j)), h) := id rfl
@[simp] theorem b_bor : binD .bor (.int i) (.int j) h = some (.ok (.int (Builtin.bitOr i j)), h) := id rfl
@[simp] theorem b_bxor : binD .bxor (.int i) (.int j) h = some (.ok (.int (Builtin.bitXor i j)), h) := id rfl
@[simp] theorem n_int : negD (.int i) h = some (.ok (.int (-i)), h) := id rfl
theorem b_addL {a b : Nat} {xs ys : List D} (ha : h.get a = some (.lst xs)) (hb : h.get b = some (.lst ys)) (c : xs.length + ys.length ≤ 1000000) : binD .add (.ref a) (.ref b) h = some (.ok (.ref h.next), h.new (.lst (xs ++ ys))) := by
  simp only [binD, ha, hb]
  exact if_pos c
@[simp] theorem c_eqI : cmpD .eq (.int i) (.int j) h = some (decide (i = j)) := id rfl
@[simp] theorem c_eqS (s t : Str) : cmpD .eq (.str s) (.str t) h = some (decide (s = t)) := id rfl
@[simp] theorem c_neI : cmpD .ne (.int i) (.int j) h = some (!decide (i = j)) := id rfl
@[simp] theorem c_neS (s t : Str) : cmpD .ne (.str s) (.str t) h = some (!decide (s = t)) := id rfl
@[simp] theorem c_lt : cmpD .lt (.int i) (.int j) h = some (decide (i < j)) := id rfl
@[simp] theorem c_le : cmpD .le (.int i) (.int j) h = some (decide (i ≤ j)) := id rfl
@[simp] theorem c_gt : cmpD .gt (.int i) (.int j) h = some (decide (j < i)) := id rfl
@[simp] theorem c_ge : cmpD .ge (.int i) (.int j) h = some (decide (j ≤ i)) := id rfl
@[simp] theorem bi_divmod (c : 0 < j ∧ -(2 ^ 250) < i ∧ i < 2 ^ 250) : biD .divmod [.int i, .int j] h = some (.ok (.tup [.int (i / j), .int (i % j)]), h) := if_pos c
@[simp] theorem bi_int : biD .int [.int i] h = some (.ok (.int i), h) := id rfl
@[simp] theorem bi_intB (b : Bool) : biD .int [.bl b] h = some (.ok (.int (if b then 1 else 0)), h) := id rfl
@[simp] theorem bi_lenT (xs : List D) : biD .len [.tup xs] h = some (.ok (.int xs.length), h) := id rfl
theorem bi_lenL {a : Nat} {xs : List D} (e : h.get a = some (.lst xs)) : biD .len [.ref a] h = some (.ok (.int xs.length), h) := by simp only [biD, e]; rfl
@[simp] theorem bi_min : biD .min2 [.int i, .int j] h = some (.ok (.int (if j < i then j else i)), h) := id rfl
@[simp] theorem bi_max : biD .max2 [.int i, .int j] h = some (.ok (.int (if j > i then j else i)), h) := id rfl
@[simp] theorem lmin_nil {d : Int} : lmin d [] = d := rfl
@[simp] theorem bi_abs : biD .abs [.int i] h = some (.ok (.int (if i < 0 then -i else i)), h) := id rfl
@[simp] theorem tr_b (b : Bool) : truD (.bl b) h = some b := id rfl
@[simp] theorem tr_i : truD (.int i) h = some (i != 0) := id rfl
@[simp] theorem ty_i : tyN (.int i) h = some "int" := id rfl
@[simp] theorem ty_b (b : Bool) : tyN (.bl b) h = some "bool" := id rfl
@[simp] theorem ty_s (b : Str) : tyN (.str b) h = some "str" := id rfl
@[simp] theorem ty_n : tyN .non h = some "NoneType" := id rfl
@[simp] theorem ty_t (xs : List D) : tyN (.tup xs) h = some "tuple" := id rfl
theorem ty_l {a : Nat} {xs : List D} (e : h.get a = some (.lst xs)) : tyN (.ref a) h = some "list" := by simp only [tyN, e]
@[simp] theorem isTn_ii : isTn "int" .int = true := by decide
@[simp] theorem isTn_ib : isTn "int" .bool = false := by decide
@[simp] theorem isTn_bi : isTn "bool" .int = true := by decide
@[simp] theorem isTn_bb : isTn "bool" .bool = true := by decide
@[simp] theorem isTn_ss : isTn "str" .str = true := by decide
@[simp] theorem isTn_tt : isTn "tuple" .tuple = true := by decide
@[simp] theorem isTn_ll : isTn "list" .list = true := by decide
@[simp] theorem ix_tup (xs : List D) : idxD (.tup xs) (.int i) h = atD xs i := id rfl
theorem ix_lst {a : Nat} {xs : List D} (e : h.get a = some (.lst xs)) : idxD (.ref a) (.int i) h = atD xs i := by simp only [idxD, e]
@[simp] theorem atD_0 {α : Type} (x : α) (xs : List α) : atD (x :: xs) 0 = some x := id rfl
@[simp] theorem atD_1 {α : Type} (x y : α) (xs : List α) : atD (x :: y :: xs) 1 = some y := id rfl
@[simp] theorem atD_2 {α : Type} (x y z : α) (xs : List α) : atD (x :: y :: z :: xs) 2 = some z := id rfl
@[simp] theorem atD_3 {α : Type} (x y z u : α) (xs : List α) : atD (x :: y :: z :: u :: xs) 3 = some u := id rfl
@[simp] theorem atD_4 {α : Type} (x y z u v : α) (xs : List α) : atD (x :: y :: z :: u :: v :: xs) 4 = some v := id rfl
theorem atD_nat {α : Type} (xs : List α) (k : Nat) : atD xs (k : Int) = xs[k]? := by unfold atD; rw [if_pos (Int.natCast_nonneg k)]; rfl
end

structure Gro (h h' : Hm) : Prop where
  le : h.next ≤ h'.next
  at_ : ∀ a, a < h.next → h'.get a = h.get a
theorem Gro.refl {h : Hm} : Gro h h := ⟨Nat.le_refl _, fun _ _ => rfl⟩
theorem Gro.trans {h h' h'' : Hm} (a : Gro h h') (b : Gro h' h'') : Gro h h'' := ⟨Nat.le_trans a.le b.le, fun x hx => (b.at_ x (Nat.lt_of_lt_of_le hx a.le)).trans (a.at_ x hx)⟩
theorem Gro.new {h : Hm} {o : O} : Gro h (h.new o) := ⟨Nat.le_succ _, fun a ha => by rw [new_get, if_neg (Nat.ne_of_lt ha)]⟩
theorem Gro.put {h h' : Hm} {a : Nat} {o : O} (g : Gro h h') (ha : h.next ≤ a) : Gro h (h'.put a o) := ⟨g.le, fun b hb => by rw [put_get, if_neg (by omega)]; exact g.at_ b hb⟩

theorem stays_nil (h : Hm) : stays [] h := fun _ hp => by cases hp
theorem forL_thru {fb : Env → Hm → Out} {g : Tg} {gd : List (Nat × O)} (I : List D → Env → Hm → Prop) (hs : ∀ xs env h, I xs env h → stays gd h)
    (step : ∀ x xs env h, I (x :: xs) env h → ∃ env1 env2 h2, asgT g x env = some env1 ∧ fb env1 h = some (.nx, env2, h2) ∧ I xs env2 h2) :
    ∀ xs env h, I xs env h → ∃ env' h', forL fb g gd xs env h = some (.nx, env', h') ∧ I [] env' h'
  | [], env, h, i => by
    refine ⟨env, h, ?_, i⟩
    unfold forL
    rw [if_pos (hs _ _ _ i)]
    rfl
  | x :: xs, env, h, i => by
    obtain ⟨env1, env2, h2, e1, e2, i2⟩ := step x xs env h i
    obtain ⟨env', h', e3, i3⟩ := forL_thru I hs step xs env2 h2 i2
    refine ⟨env', h', ?_, i3⟩
    unfold forL
    rw [if_pos (hs _ _ _ i), e1]
    simp only [e2, thenS_nx]
    exact e3
set_option checkBinderAnnotations false in
def bndNI {α β : Type} (m : Res α) [f : α → Hm → Res β] : Res β := bndN m f
@[simp] theorem bndNI_ok {α β : Type} (a : α) (h : Hm) (f : α → Hm → Res β) : @bndNI α β (some (.ok a, h)) f = f a h := id rfl
theorem forL_nil {fb : Env → Hm → Out} {g : Tg} {gd : List (Nat × O)} {env : Env} {h : Hm} (hs : stays gd h) : forL fb g gd [] env h = some (.nx, env, h) := by
  unfold forL; rw [if_pos hs]; rfl
theorem forL_cons {fb : Env → Hm → Out} {g : Tg} {gd : List (Nat × O)} {x : D} {xs : List D} {env : Env} {h : Hm} (hs : stays gd h) :
    forL fb g gd (x :: xs) env h = @someI _ _ (asgT g x env) fun env1 => @thenSI (fb env1 h) fun env2 h2 => forL fb g gd xs env2 h2 := by
  rw [forL, if_pos hs]
  cases asgT g x env <;> rfl
theorem compL_nil {fe : Env → Hm → Res D} {ft : Env → Hm → Res Bool} {g : Tg} {gd : List (Nat × O)} {a : Nat} {env : Env} {h : Hm} (hs : stays gd h) : compL fe ft g gd a env [] h = some (.ok (.ref a), h) := by
  unfold compL; rw [if_pos hs]; rfl
theorem put_self {h : Hm} {a : Nat} {o : O} (e : h.get a = some o) : h.put a o = h := by
  obtain ⟨g, n⟩ := h
  show (⟨_, _⟩ : Hm) = _
  congr 1
  funext b
  by_cases hb : b = a
  · subst hb; rw [if_pos rfl]; exact e.symm
  · rw [if_neg hb]
@[simp] theorem put_put {h : Hm} {a : Nat} {o o' : O} : (h.put a o).put a o' = h.put a o' := by
  show (⟨_, _⟩ : Hm) = ⟨_, _⟩
  congr 1
  funext b
  by_cases hb : b = a
  · rw [if_pos hb, if_pos hb]
  · rw [if_neg hb, if_neg hb]; show (if b = a then _ else _) = _; rw [if_neg hb]
@[simp] theorem new_put {h : Hm} {o o' : O} : (h.new o).put h.next o' = h.new o' := by
  show (⟨_, _⟩ : Hm) = ⟨_, _⟩
  congr 1
  funext b
  by_cases hb : b = h.next
  · rw [if_pos hb, if_pos hb]
  · rw [if_neg hb, if_neg hb]; show (if b = h.next then _ else _) = _; rw [if_neg hb]
@[simp] theorem asgT_name (i : Nat) (x : D) (env : Env) : asgT (.name i) x env = some (env.set i (some x)) := id rfl
@[simp] theorem walk_tup (xs : List D) (h : Hm) : walk .seq [.tup xs] h = some (xs, []) := id rfl
theorem walk_lst {a : Nat} {xs : List D} {h : Hm} (e : h.get a = some (.lst xs)) : walk .seq [.ref a] h = some (xs, [(a, .lst xs)]) := by simp only [walk, e]
@[simp] theorem walk_r1 {n : Int} (c : -(2 ^ 62) ≤ n ∧ n < 2 ^ 62) {h : Hm} : walk .range1 [.int n] h = some ((List.range n.toNat).map fun (i : Nat) => .int (i : Int), []) := if_pos c
@[simp] theorem walk_r2 {m n : Int} (c : (-(2 ^ 62) ≤ m ∧ m < 2 ^ 62) ∧ (-(2 ^ 62) ≤ n ∧ n < 2 ^ 62)) {h : Hm} : walk .range2 [.int m, .int n] h = some ((List.range (n - m).toNat).map fun (i : Nat) => .int (m + (i : Int)), []) := if_pos c
@[simp] theorem wipe_nil (env : Env) : wipeE env [] = env := id rfl
@[simp] theorem wipe_cons (env : Env) (v : Nat) (vs : List Nat) : wipeE env (v :: vs) = (wipeE env vs).set v none := id rfl
@[simp] theorem in_name (i : Nat) (own : List Nat) : (Tg.name i).in_ own = own.contains i := id rfl
theorem forL_quiet {fb : Env → Hm → Out} {g : Tg} {gd : List (Nat × O)} (E : Env → Prop) (G : Hm → Prop) (hs : ∀ h, G h → stays gd h) :
    ∀ (xs : List D), (∀ x ∈ xs, ∀ env h, E env → G h → ∃ env1 env2 h2, asgT g x env = some env1 ∧ fb env1 h = some (.nx, env2, h2) ∧ E env2 ∧ G h2) → ∀ env h, E env → G h → ∃ env' h', forL fb g gd xs env h = some (.nx, env', h') ∧ E env' ∧ G h' := fun xs step env h e gh => by
  obtain ⟨env', h', e1, i1, i2⟩ := forL_thru (fb := fb) (g := g) (gd := gd) (fun ys env h => (∀ y ∈ ys, y ∈ xs) ∧ E env ∧ G h) (fun _ _ h i => hs h i.2.2)
    (fun y ys env h i => by
      obtain ⟨env1, env2, h2, a1, a2, a3, a4⟩ := step y (i.1 y (List.mem_cons_self ..)) env h i.2.1 i.2.2
      exact ⟨env1, env2, h2, a1, a2, fun z hz => i.1 z (List.mem_cons_of_mem _ hz), a3, a4⟩) xs env h ⟨fun _ hy => hy, e, gh⟩
  exact ⟨env', h', e1, i2⟩
@[simp] theorem h0_get (ns : List Int) : (h0 ns).get 0 = some (.fz (ns.map D.int)) := id rfl
@[simp] theorem h0_next (ns : List Int) : (h0 ns).next = 1 := id rfl
theorem cut_to {α : Type} (xs : List α) (k : Nat) : cut xs none (some (k : Int)) = xs.take k := by
  unfold cut sI
  dsimp only
  rw [if_neg (by omega), Int.toNat_natCast, List.drop_zero, Nat.sub_zero]
  by_cases hk : k ≤ xs.length
  · rw [Nat.min_eq_left hk]
  · rw [Nat.min_eq_right (by omega), List.take_of_length_le (Nat.le_refl _), List.take_of_length_le (by omega)]
@[simp] theorem lim_eq : lim = 1000000 := id rfl
section
variable {a : Nat} {h : Hm} {xs : List D} {v x : D} {i : Int}
def walkO (o : Option O) (a : Nat) : Option (List D × List (Nat × O)) := match o with
  | some (.lst xs) => some (xs, [(a, .lst xs)])
  | some (.fz xs) => some (xs, [(a, .fz xs)])
  | _ => none
@[simp] theorem walk_ref : walk .seq [.ref a] h = walkO (h.get a) a := id rfl
@[simp] theorem walkO_l : walkO (some (.lst xs)) a = some (xs, [(a, .lst xs)]) := id rfl
@[simp] theorem walkO_f : walkO (some (.fz xs)) a = some (xs, [(a, .fz xs)]) := id rfl
def seqO (o : Option O) : Option (List D) := match o with
  | some (.lst xs) => some xs
  | some (.fz xs) => some xs
  | _ => none
@[simp] theorem seqO_l : seqO (some (.lst xs)) = some xs := id rfl
@[simp] theorem seqO_f : seqO (some (.fz xs)) = some xs := id rfl
@[simp] theorem seqOf_ref : seqOf (.ref a) h = seqO (h.get a) := id rfl
@[simp] theorem seqOf_tup : seqOf (.tup xs) h = some xs := id rfl
@[simp] theorem lstOf_ref : lstOf (.ref a) h = seqO (h.get a) := id rfl
def atO (o : Option (List D)) (i : Int) : Option D := match o with
  | some xs => atD xs i
  | none => none
@[simp] theorem atO_s : atO (some xs) i = atD xs i := id rfl
@[simp] theorem idx_ref : idxD (.ref a) (.int i) h = atO (seqO (h.get a)) i := by
  cases e : h.get a with
  | none => simp only [idxD, e]; rfl
  | some o => cases o <;> (simp only [idxD, e]; rfl)
def slcO (o : Option (List D)) (lo hi : Option Int) (h : Hm) : Res D := match o with
  | some xs => some (.ok (.ref h.next), h.new (.lst (cut xs lo hi)))
  | none => none
@[simp] theorem slcO_s {lo hi : Option Int} : slcO (some xs) lo hi h = some (.ok (.ref h.next), h.new (.lst (cut xs lo hi))) := id rfl
@[simp] theorem slc_ref {lo hi : Option Int} : slcD (.ref a) lo hi h = slcO (seqO (h.get a)) lo hi h := by
  cases e : h.get a with
  | none => simp only [slcD, e]; rfl
  | some o => cases o <;> (simp only [slcD, e]; rfl)
@[simp] theorem slc_tup {lo hi : Option Int} : slcD (.tup xs) lo hi h = some (.ok (.tup (cut xs lo hi)), h) := id rfl
def lenO (o : Option O) (h : Hm) : Res D := match o with
  | some (.lst xs) => ok (.int xs.length) h
  | some (.fz xs) => ok (.int xs.length) h
  | some (.dic kvs) => ok (.int kvs.length) h
  | _ => none
@[simp] theorem lenO_l : lenO (some (.lst xs)) h = some (.ok (.int xs.length), h) := id rfl
@[simp] theorem lenO_f : lenO (some (.fz xs)) h = some (.ok (.int xs.length), h) := id rfl
@[simp] theorem len_ref : biD .len [.ref a] h = lenO (h.get a) h := id rfl
def addO (o o' : Option O) (h : Hm) : Res D := match o, o' with
  | some (.lst xs), some (.lst ys) => if xs.length + ys.length ≤ 1000000 then some (.ok (.ref h.next), h.new (.lst (xs ++ ys))) else none
  | _, _ => none
@[simp] theorem addO_l {ys : List D} (c : xs.length + ys.length ≤ 1000000) : addO (some (.lst xs)) (some (.lst ys)) h = some (.ok (.ref h.next), h.new (.lst (xs ++ ys))) := if_pos c
@[simp] theorem add_ref {b : Nat} : binD .add (.ref a) (.ref b) h = addO (h.get a) (h.get b) h := by
  cases e : h.get a with
  | none => simp only [binD, e]; rfl
  | some o => cases o <;> (simp only [binD, e]; rfl)
def appO (o : Option O) (a : Nat) (v : D) (h : Hm) : Res D := match o with
  | some (.lst xs) => if xs.length < 1000000 then some (.ok .non, h.put a (.lst (xs ++ [v]))) else none
  | _ => none
@[simp] theorem appO_l (c : xs.length < 1000000) : appO (some (.lst xs)) a v h = some (.ok .non, h.put a (.lst (xs ++ [v]))) := if_pos c
@[simp] theorem app_ref : bmD .append (.ref a) [v] h = appO (h.get a) a v h := by
  cases e : h.get a with
  | none => simp only [bmD, e]; rfl
  | some o => cases o <;> (simp only [bmD, e]; rfl)
@[simp] theorem rcv_app : rcv .append x h = (lstOf x h).isSome := id rfl
@[simp] theorem rcv_pop : rcv .pop x h = (lstOf x h).isSome := id rfl
def popO (o : Option O) (a : Nat) (h : Hm) : Res D := match o with
  | some (.lst xs) => (match xs.getLast? with
    | some y => some (.ok y, h.put a (.lst xs.dropLast))
    | none => none)
  | _ => none
@[simp] theorem popO_l {y : D} : popO (some (.lst (xs ++ [y]))) a h = some (.ok y, h.put a (.lst xs)) := by
  simp [popO]
@[simp] theorem pop_ref : bmD .pop (.ref a) [] h = popO (h.get a) a h := by
  cases e : h.get a with
  | none => simp only [bmD, e]; rfl
  | some o => cases o <;> (simp only [bmD, e]; rfl)
def tyO (o : Option O) : Option String := match o with
  | some (.lst _) => some "list"
  | some (.fz _) => some "list"
  | some (.dic _) => some "dict"
  | _ => none
@[simp] theorem tyO_l : tyO (some (.lst xs)) = some "list" := id rfl
@[simp] theorem tyO_f : tyO (some (.fz xs)) = some "list" := id rfl
@[simp] theorem ty_ref : tyN (.ref a) h = tyO (h.get a) := id rfl
def truO (o : Option O) : Option Bool := match o with
  | some (.lst xs) => some (!xs.isEmpty)
  | some (.fz xs) => some (!xs.isEmpty)
  | some (.dic kvs) => some (!kvs.isEmpty)
  | _ => none
@[simp] theorem truO_l : truO (some (.lst xs)) = some (!xs.isEmpty) := id rfl
@[simp] theorem tru_ref : truD (.ref a) h = truO (h.get a) := id rfl
@[simp] theorem tru_tup : truD (.tup xs) h = some (!xs.isEmpty) := id rfl
def seqK (x : D) (h : Hm) : Option (List D) := match seqOf x h with
  | some xs => some xs
  | none => (match x with
    | .ref a => (match h.get a with
      | some (.dic kvs) => some (kvs.map fun kv => keyD kv.1)
      | _ => none)
    | _ => none)
def seqKO (o : Option O) : Option (List D) := match o with
  | some (.lst xs) => some xs
  | some (.fz xs) => some xs
  | some (.dic kvs) => some (kvs.map fun kv => keyD kv.1)
  | _ => none
@[simp] theorem seqKO_l {xs : List D} : seqKO (some (.lst xs)) = some xs := id rfl
@[simp] theorem seqKO_f {xs : List D} : seqKO (some (.fz xs)) = some xs := id rfl
@[simp] theorem seqKO_d {kvs : List (L2.Key × D)} : seqKO (some (.dic kvs)) = some (kvs.map fun kv => keyD kv.1) := id rfl
@[simp] theorem seqK_tup {xs : List D} : seqK (.tup xs) h = some xs := id rfl
@[simp] theorem seqK_ref {a : Nat} : seqK (.ref a) h = seqKO (h.get a) := by
  cases e : h.get a with
  | none => simp only [seqK, seqOf, e]; rfl
  | some o => cases o <;> (simp only [seqK, seqOf, e]; rfl)
@[simp] theorem bi_list : biD .list [x] h = @someI _ _ (seqK x h) fun xs => some (.ok (.ref h.next), h.new (.lst xs)) := by
  unfold seqK
  simp only [biD]
  cases e : seqOf x h with
  | some xs => rfl
  | none =>
    cases x with
    | ref a =>
      dsimp only
      cases e2 : h.get a with
      | none => rfl
      | some o => cases o <;> rfl
    | _ => rfl
@[simp] theorem bi_tuple : biD .tuple [x] h = @someI _ _ (seqOf x h) fun xs => some (.ok (.tup xs), h) := by
  cases e : seqOf x h <;> (simp only [biD, e]; rfl)
end
@[simp] theorem stays_nl (h : Hm) : stays [] h ↔ True := ⟨fun _ => trivial, fun _ => stays_nil h⟩
@[simp] theorem stays_cons (a : Nat) (o : O) (r : List (Nat × O)) (h : Hm) : stays ((a, o) :: r) h ↔ h.get a = some o ∧ stays r h :=
  ⟨fun s => ⟨s _ (List.mem_cons_self ..), fun p hp => s p (List.mem_cons_of_mem _ hp)⟩, fun s p hp => by
    cases hp with
    | head => exact s.1
    | tail _ z => exact s.2 p z⟩

section
variable {h : Hm} {a : Nat} {o o' : O}
@[simp high] theorem new_get_lt (c : a < h.next) : (h.new o).get a = h.get a := by rw [new_get, if_neg (Nat.ne_of_lt c)]
@[simp high] theorem put_get_ne {b : Nat} (c : a ≠ b) : (h.put b o).get a = h.get a := by rw [put_get, if_neg c]
@[simp] theorem new_put_eq (c : a = h.next) : (h.new o).put a o' = h.new o' := by rw [c, new_put]
@[simp] theorem new_put_lt (c : a < h.next) : (h.new o).put a o' = (h.put a o').new o := by
  show (⟨_, _⟩ : Hm) = ⟨_, _⟩
  congr 1
  funext b
  show (if b = a then _ else if b = h.next then _ else _) = if b = h.next then _ else if b = a then _ else _
  by_cases hb : b = a
  · rw [if_pos hb, if_neg (by omega), if_pos hb]
  · rw [if_neg hb, if_neg hb]
@[simp] theorem new2_put {o1 o2 : O} : ((h.new o1).new o2).put (h.next + 1) o = (h.new o1).new o := new_put
@[simp] theorem new3_put {o1 o2 o3 : O} : (((h.new o1).new o2).new o3).put (h.next + 1 + 1) o = ((h.new o1).new o2).new o := new_put
@[simp] theorem new4_put {o1 o2 o3 o4 : O} : ((((h.new o1).new o2).new o3).new o4).put (h.next + 1 + 1 + 1) o = (((h.new o1).new o2).new o3).new o := new_put
theorem gro_new {h' : Hm} (g : Gro h h') : Gro h (h'.new o) := g.trans .new
end
theorem quiet {fb : Env → Hm → Out} {g : Tg} {gd : List (Nat × O)} {xs : List D} {env : Env} {h : Hm} {k : Env → Hm → Out} (P : Res D → Prop) (E : Env → Prop) (G : Hm → Prop) (e0 : E env) (g0 : G h) (hs : ∀ h, G h → stays gd h)
    (step : ∀ x ∈ xs, ∀ env h, E env → G h → ∃ env1 env2 h2, asgT g x env = some env1 ∧ fb env1 h = some (.nx, env2, h2) ∧ E env2 ∧ G h2)
    (post : ∀ env' h', E env' → G h' → P (endF (k env' h'))) : P (endF (@thenSI (forL fb g gd xs env h) k)) := by
  obtain ⟨env', h', e1, e2, e3⟩ := forL_quiet E G hs xs step env h e0 g0
  rw [e1]
  exact post env' h' e2 e3
theorem Gro.get {h h' : Hm} (g : Gro h h') {a : Nat} {o : Option O} (e : h.get a = o) (l : a < h.next) : h'.get a = o := (g.at_ a l).trans e
end Z

set_option maxRecDepth 100000
set_option maxHeartbeats 2000000
namespace Z
open PySem
def lastV {α : Type} (A : α → D) (l : Option D) (done : List α) : Option D := match done.getLast? with
  | some c => some (A c)
  | none => l
@[simp] theorem lastV_snoc {α : Type} (A : α → D) (l : Option D) (done : List α) (c : α) : lastV A l (done ++ [c]) = some (A c) := by unfold lastV; simp
@[simp] theorem lastV_nil {α : Type} (A : α → D) (l : Option D) : lastV A l [] = l := id rfl
theorem forL_inv {α σ : Type} {fb : Env → Hm → Out} {g : Tg} {gd : List (Nat × O)} (A : α → D) (S : σ → Env) (H : σ → Hm) (f : σ → α → σ) (I : σ → Prop) : ∀ {cs : List α}, (∀ s, I s → ∀ c ∈ cs, I (f s c)) → ∀ {s : σ}, I s → I (cs.foldl f s)
  | [], _, _, i => i
  | c :: cs, step, s, i => forL_inv (fb := fb) (g := g) (gd := gd) A S H f I (fun s i c hc => step s i c (List.mem_cons_of_mem _ hc)) (step s i c (List.mem_cons_self ..))
section
variable {h : Hm} {i j : Int}
@[simp] theorem b_pow (c : 0 ≤ j ∧ j ≤ 1000000 ∧ -(2 ^ 64) < i ∧ i < 2 ^ 64) : binD .pow (.int i) (.int j) h = some (.ok (.int (i ^ j.toNat)), h) := if_pos ⟨c.1, c.2.1, c.2.2⟩
end
def cell (ns : List Int) (k : Nat) : Int := (ns[k]?).getD 0
theorem at_script (ns : List Int) (k : Nat) (hk : k < ns.length) : atD (ns.map D.int) (k : Int) = some (.int (cell ns k)) := by
  rw [atD_nat, List.getElem?_map]
  unfold cell
  rw [List.getElem?_eq_getElem hk]
  rfl
theorem cell_out (ns : List Int) (k : Nat) (hk : ¬ k < ns.length) : cell ns k = 0 := by
  unfold cell
  rw [List.getElem?_eq_none (by omega)]
  rfl

@[simp] theorem atD_lit {α : Type} (xs : List α) (k : Nat) : atD xs (no_index (@OfNat.ofNat Int k _)) = xs[k]? := atD_nat xs k
section
variable {h : Hm} {x : D} {xs : List D}
@[simp] theorem in_tup : cmpD .inn x (.tup xs) h = inL x xs := id rfl
@[simp] theorem nin_tup : cmpD .nin x (.tup xs) h = (inL x xs).map fun b => !b := id rfl
def inO (x : D) (o : Option (List D)) : Option Bool := match o with
  | some xs => inL x xs
  | none => none
@[simp] theorem inO_s : inO x (some xs) = inL x xs := id rfl
@[simp] theorem aug_add (i j : Int) : augD .add (.int i) (.int j) = some (.int (i + j)) := id rfl
@[simp] theorem aug_sub (i j : Int) : augD .sub (.int i) (.int j) = some (.int (i - j)) := id rfl
@[simp] theorem c_eqB (a b : Bool) : cmpD .eq (.bl a) (.bl b) h = some (decide (a = b)) := id rfl
@[simp] theorem c_neB (a b : Bool) : cmpD .ne (.bl a) (.bl b) h = some (!decide (a = b)) := id rfl
@[simp] theorem c_isNN : cmpD .isN .non .non h = some true := id rfl
@[simp] theorem c_notNN : cmpD .notN .non .non h = some false := id rfl
@[simp] theorem c_isNi (i : Int) : cmpD .isN (.int i) .non h = some false := id rfl
@[simp] theorem c_notNi (i : Int) : cmpD .notN (.int i) .non h = some true := id rfl
@[simp] theorem c_isNr (i : Nat) : cmpD .isN (.ref i) .non h = some false := id rfl
@[simp] theorem c_notNr (i : Nat) : cmpD .notN (.ref i) .non h = some true := id rfl
@[simp] theorem c_isNs (i : Str) : cmpD .isN (.str i) .non h = some false := id rfl
@[simp] theorem c_notNs (i : Str) : cmpD .notN (.str i) .non h = some true := id rfl
@[simp] theorem c_isNt (i : List D) : cmpD .isN (.tup i) .non h = some false := id rfl
@[simp] theorem c_notNt (i : List D) : cmpD .notN (.tup i) .non h = some true := id rfl
@[simp] theorem flat_i (i : Int) : flatD (.int i) = true := id rfl
@[simp] theorem flat_s (i : Str) : flatD (.str i) = true := id rfl
@[simp] theorem flat_b (i : Bool) : flatD (.bl i) = true := id rfl
@[simp] theorem flat_n : flatD .non = true := id rfl
@[simp] theorem eqF_s (a b : Str) : eqF (.str a) (.str b) = decide (a = b) := by show (a == b) = _; rw [Bool.eq_iff_iff, beq_iff_eq, decide_eq_true_eq]
@[simp] theorem eqF_i (a b : Int) : eqF (.int a) (.int b) = decide (a = b) := by show (a == b) = _; rw [Bool.eq_iff_iff, beq_iff_eq, decide_eq_true_eq]
theorem inL_flat (hx : flatD x = true) (hs : xs.all flatD = true) : inL x xs = some (xs.any fun y => eqF y x) := if_pos ⟨hx, hs⟩
@[simp] theorem inL_s (s : Str) : inL (.str s) xs = if xs.all flatD = true then some (xs.any fun y => eqF y (.str s)) else none := by
  unfold inL
  by_cases hs : xs.all flatD = true
  · rw [if_pos hs, if_pos ⟨rfl, hs⟩]
  · rw [if_neg hs, if_neg fun z => hs z.2]
@[simp] theorem inL_i (s : Int) : inL (.int s) xs = if xs.all flatD = true then some (xs.any fun y => eqF y (.int s)) else none := by
  unfold inL
  by_cases hs : xs.all flatD = true
  · rw [if_pos hs, if_pos ⟨rfl, hs⟩]
  · rw [if_neg hs, if_neg fun z => hs z.2]
end
def eqPP (p q : Option PyData) : Option Bool := match p, q with
  | some d, some e => if (SeqAt.shaped d && SeqAt.shaped e) = true then some (PyData.eqv d e) else none
  | _, _ => none
def datO (f : D → Option PyData) (o : Option O) : Option PyData := match o with
  | some (.lst xs) => (mapO f xs).map .list
  | some (.fz xs) => (mapO f xs).map .list
  | _ => none
section
variable {h : Hm} {n : Nat}
@[simp] theorem eq_rr (a b : Nat) : cmpD .eq (.ref a) (.ref b) h = eqPP (dat h 30 (.ref a)) (dat h 30 (.ref b)) := id rfl
@[simp] theorem ne_rr (a b : Nat) : cmpD .ne (.ref a) (.ref b) h = (eqPP (dat h 30 (.ref a)) (dat h 30 (.ref b))).map fun b => !b := id rfl
@[simp] theorem eq_tt (a b : List D) : cmpD .eq (.tup a) (.tup b) h = eqPP (dat h 30 (.tup a)) (dat h 30 (.tup b)) := id rfl
@[simp] theorem ne_tt (a b : List D) : cmpD .ne (.tup a) (.tup b) h = (eqPP (dat h 30 (.tup a)) (dat h 30 (.tup b))).map fun b => !b := id rfl
@[simp] theorem dat_ref (a : Nat) : dat h (n + 1) (.ref a) = datO (dat h n) (h.get a) := by
  rw [dat]
  cases h.get a with
  | none => rfl
  | some o => cases o <;> rfl
@[simp] theorem dat_tup (xs : List D) : dat h (n + 1) (.tup xs) = (mapO (dat h n) xs).map .tuple := by rw [dat]
@[simp] theorem dat_int (i : Int) : dat h n (.int i) = some (.int i) := by cases n <;> rw [dat]
@[simp] theorem dat_str (i : Str) : dat h n (.str i) = some (.str i) := by cases n <;> rw [dat]
@[simp] theorem dat_bl (i : Bool) : dat h n (.bl i) = some (.bool i) := by cases n <;> rw [dat]
@[simp] theorem dat_non : dat h n .non = some .none := by cases n <;> rw [dat]
@[simp] theorem datO_l (f : D → Option PyData) (xs : List D) : datO f (some (.lst xs)) = (mapO f xs).map .list := id rfl
@[simp] theorem datO_f (f : D → Option PyData) (xs : List D) : datO f (some (.fz xs)) = (mapO f xs).map .list := id rfl
@[simp] theorem mapO_nil {α β : Type} (f : α → Option β) : mapO f [] = some [] := id rfl
theorem mapO_cons {α β : Type} (f : α → Option β) (x : α) (xs : List α) {y : β} {ys : List β} (e : f x = some y) (e2 : mapO f xs = some ys) : mapO f (x :: xs) = some (y :: ys) := by simp only [mapO, e, e2]
theorem mapO_map {α β γ : Type} (f : β → Option γ) (A : α → β) (B : α → γ) : ∀ cs : List α, (∀ c ∈ cs, f (A c) = some (B c)) → mapO f (cs.map A) = some (cs.map B)
  | [], _ => rfl
  | c :: cs, hx => mapO_cons f _ _ (hx c (List.mem_cons_self ..)) (mapO_map f A B cs fun x h => hx x (List.mem_cons_of_mem _ h))
@[simp] theorem mapO_ints (us : List Int) : mapO (dat h n) (us.map D.int) = some (us.map PyData.int) := mapO_map _ _ _ us fun c _ => dat_int c
theorem lay_ints : ∀ us : List Int, PyData.canLayAll0 (us.map PyData.int) = true
  | [] => by simp only [List.map_nil, PyData.canLayAll0]
  | x :: xs => by simp only [List.map_cons, PyData.canLayAll0, PyData.canLay0, lay_ints xs, Bool.and_self]
theorem dep_ints : ∀ us : List Int, PyData.depthAll (us.map PyData.int) = 0
  | [] => by simp only [List.map_nil, PyData.depthAll]
  | x :: xs => by simp only [List.map_cons, PyData.depthAll, PyData.depth, dep_ints xs, Nat.max_self]
theorem sh_ints (us : List Int) : SeqAt.shaped (.list (us.map PyData.int)) = true := by
  simp only [SeqAt.shaped, PyData.canLay0, PyData.depth, lay_ints, dep_ints]
  rfl
@[simp] theorem eqPP_ints (us vs : List Int) : eqPP (some (.list (us.map .int))) (some (.list (vs.map .int))) = some (decide (us = vs)) := by
  simp only [eqPP, sh_ints, Bool.and_self, if_true, PyData.eqv, PySem.W.ked_eqvAll]
@[simp] theorem eqPP_nil : eqPP (some (.list [])) (some (.list [])) = some true := eqPP_ints [] []
@[simp] theorem eqPP_nilR (us : List Int) : eqPP (some (.list (us.map .int))) (some (.list [])) = some (decide (us = [])) := eqPP_ints us []
@[simp] theorem eqPP_nilL (us : List Int) : eqPP (some (.list [])) (some (.list (us.map .int))) = some (decide ([] = us)) := eqPP_ints [] us
end
@[simp] theorem atD_last {α : Type} (xs : List α) (x : α) : atD (xs ++ [x]) (-1) = some x := by
  unfold atD
  rw [if_neg (by omega), if_pos (by rw [List.length_append]; simp; omega)]
  have e : ((-1 : Int) + ((xs ++ [x]).length : Int)).toNat = xs.length := by rw [List.length_append]; simp; omega
  rw [e]
  simp
@[simp] theorem walk_revR {a : Nat} {h : Hm} : walk .rev [.ref a] h = (walkO (h.get a) a).map fun p => (p.1.reverse, p.2) := by
  cases e : h.get a with
  | none => simp only [walk, e]; rfl
  | some o => cases o <;> (simp only [walk, e]; rfl)
@[simp] theorem walk_revT {xs : List D} {h : Hm} : walk .rev [.tup xs] h = some (xs.reverse, []) := id rfl
@[simp] theorem walk_r3 {i j c : Int} (z : (c = 2 ∨ c = 7) ∧ (-(2 ^ 62) ≤ i ∧ i < 2 ^ 62) ∧ (-(2 ^ 62) ≤ j ∧ j < 2 ^ 62)) {h : Hm} : walk .range3 [.int i, .int j, .int c] h = some ((List.range (if i < j then (j - i - 1) / c + 1 else 0).toNat).map fun (k : Nat) => .int (i + (k : Int) * c), []) := if_pos z
theorem compL_gA {α : Type} {fe : Env → Hm → Res D} {ft : Env → Hm → Res Bool} {g : Tg} {gd : List (Nat × O)} {a : Nat} {env : Env} (A F : α → D) (G : Hm → Prop) (hs : ∀ h, G h → stays gd h) (hp : ∀ h o, G h → G (h.put a o)) : ∀ (cs : List α) (acc : List D) (h : Hm),
    (∀ c ∈ cs, ∃ env1, asgT g (A c) env = some env1 ∧ ∀ h, G h → ft env1 h = some (.ok true, h) ∧ fe env1 h = some (.ok (F c), h)) → G h → h.get a = some (.lst acc) → acc.length + cs.length ≤ 1000000 →
    compL fe ft g gd a env (cs.map A) h = some (.ok (.ref a), h.put a (.lst (acc ++ cs.map F)))
  | [], acc, h, hx, g0, ha, hl => by rw [List.map_nil, compL_nil (hs h g0), List.map_nil, List.append_nil, put_self ha]
  | x :: xs, acc, h, hx, g0, ha, hl => by
    obtain ⟨env1, e1, e2⟩ := hx x (List.mem_cons_self ..)
    rw [List.map_cons]
    unfold compL
    rw [if_pos (hs h g0), e1]
    have hlt : acc.length < lim := by unfold lim; rw [List.length_cons] at hl; omega
    simp only [(e2 h g0).1, (e2 h g0).2, bndN_ok, if_true, ha, hlt]
    rw [compL_gA A F G hs hp xs (acc ++ [F x]) _ (fun y hy => hx y (List.mem_cons_of_mem _ hy)) (hp _ _ g0) (by rw [put_get, if_pos rfl]) (by rw [List.length_append]; rw [List.length_cons] at hl; simp; omega), put_put, List.append_assoc]
    rfl
end Z

set_option maxRecDepth 100000
set_option maxHeartbeats 2000000
namespace Z
open PySem
def gt (us : List Int) (k : Nat) : Int := us.getD k 0
theorem at_gt (us : List Int) (k : Nat) (hk : k < us.length) : atD (us.map D.int) (k : Int) = some (.int (gt us k)) := by
  rw [atD_nat, List.getElem?_map, List.getElem?_eq_getElem hk, gt, List.getD_eq_getElem?_getD, List.getElem?_eq_getElem hk]; rfl
@[simp high] theorem at_gt_lit (us : List Int) (k : Nat) (hk : k < us.length) : atD (us.map D.int) (no_index (@OfNat.ofNat Int k _)) = some (.int (gt us k)) := at_gt us k hk
theorem cut_map {α β : Type} (f : α → β) (xs : List α) (lo hi : Option Int) : cut (xs.map f) lo hi = (cut xs lo hi).map f := by
  unfold cut
  rw [List.length_map, List.map_take, List.map_drop]
theorem cut_len {α : Type} (xs : List α) (lo hi : Option Int) : (cut xs lo hi).length ≤ xs.length := by
  unfold cut
  rw [List.length_take, List.length_drop]
  omega
theorem cut_from {α : Type} (xs : List α) (k : Nat) : cut xs (some (k : Int)) none = xs.drop k := by
  unfold cut sI
  dsimp only
  rw [if_neg (by omega), Int.toNat_natCast]
  by_cases hk : k ≤ xs.length
  · rw [Nat.min_eq_left hk, List.take_of_length_le (by rw [List.length_drop]; omega)]
  · rw [Nat.min_eq_right (by omega), Nat.sub_self, List.take_zero, List.drop_eq_nil_of_le (by omega)]
@[simp] theorem eqPP_self (d : PyData) (c : SeqAt.shaped d = true) : eqPP (some d) (some d) = some true := by
  have h1 : d.canLay0 = true := by
    unfold SeqAt.shaped at c
    exact (Bool.and_eq_true_iff.mp c).1
  simp only [eqPP, c, Bool.and_self, if_true, SeqAt.eqv_refl d h1]
@[simp] theorem sh_ints' (us : List Int) : SeqAt.shaped (.list (us.map PyData.int)) = true := sh_ints us
@[simp] theorem sh_paper (p : Int) (us ws : List Int) : SeqAt.shaped (.tuple [.int p, .list (us.map PyData.int), .list (ws.map PyData.int)]) = true := by
  simp only [SeqAt.shaped, PyData.canLay0, PyData.canLayAll0, PyData.depth, PyData.depthAll, lay_ints, dep_ints]
  rfl
@[simp] theorem lookup_eq {v : D} (k : String) (r : List (String × D)) : List.lookup k ((k, v) :: r) = some v := by simp [List.lookup]
@[simp] theorem lookup_ne {v : D} {k k' : String} {r : List (String × D)} (e : (k == k') = false) : List.lookup k ((k', v) :: r) = List.lookup k r := by simp only [List.lookup, e]
@[simp] theorem setF_nil (f : String) (v : D) : setF [] f v = [(f, v)] := id rfl
@[simp] theorem setF_cons (f g : String) (v x : D) (r : List (String × D)) : setF ((g, x) :: r) f v = if g = f then (g, v) :: r else (g, x) :: setF r f v := id rfl
section
variable {α : Type} {fb : Env → Hm → Out} {g : Tg} {gd : List (Nat × O)} {cs : List α}
theorem forL_relA (A : α → D) (I : List α → Env → Hm → Prop) (hs : ∀ d env h, I d env h → stays gd h)
    (step : ∀ d c rest env h, cs = d ++ c :: rest → I d env h → ∃ env1, asgT g (A c) env = some env1 ∧ ∃ env2 h2, fb env1 h = some (.nx, env2, h2) ∧ I (d ++ [c]) env2 h2) :
    ∀ (rest d : List α) env h, cs = d ++ rest → I d env h → ∃ env' h', forL fb g gd (rest.map A) env h = some (.nx, env', h') ∧ I cs env' h'
  | [], d, env, h, e, i => by
    rw [List.append_nil] at e
    subst e
    exact ⟨env, h, forL_nil (hs _ _ _ i), i⟩
  | c :: rest, d, env, h, e, i => by
    obtain ⟨env1, e1, env2, h2, e2, i2⟩ := step d c rest env h e i
    obtain ⟨env', h', e3, i3⟩ := forL_relA A I hs step rest (d ++ [c]) env2 h2 (by rw [e, List.append_assoc]; rfl) i2
    refine ⟨env', h', ?_, i3⟩
    rw [List.map_cons, forL_cons (hs _ _ _ i), e1, someI_some, e2, thenSI_nx]
    exact e3
theorem forL_rel (A : α → D) (I : List α → Env → Hm → Prop) {env : Env} {h : Hm} (i0 : I [] env h) (hs : ∀ d env h, I d env h → stays gd h)
    (step : ∀ d c rest env h, cs = d ++ c :: rest → I d env h → ∃ env1, asgT g (A c) env = some env1 ∧ ∃ env2 h2, fb env1 h = some (.nx, env2, h2) ∧ I (d ++ [c]) env2 h2) :
    ∃ env' h', forL fb g gd (cs.map A) env h = some (.nx, env', h') ∧ I cs env' h' := forL_relA A I hs step cs [] env h rfl i0
theorem relXA (Q : Out → Prop) (A : α → D) (I : List α → Env → Hm → Prop) {k : Env → Hm → Out} (hs : ∀ d env h, I d env h → stays gd h)
    (step : ∀ d c rest env h, cs = d ++ c :: rest → I d env h → ∃ env1, asgT g (A c) env = some env1 ∧ ((∃ env2 h2, fb env1 h = some (.nx, env2, h2) ∧ I (d ++ [c]) env2 h2) ∨ (∃ r env2 h2, fb env1 h = some (.rt r, env2, h2) ∧ Q (some (.rt r, env2, h2)))))
    (post : ∀ env' h', I cs env' h' → Q (k env' h')) : ∀ (rest d : List α) env h, cs = d ++ rest → I d env h → Q (@thenSI (forL fb g gd (rest.map A) env h) k)
  | [], d, env, h, e, i => by
    rw [List.append_nil] at e
    subst e
    rw [List.map_nil, forL_nil (hs _ _ _ i)]
    exact post env h i
  | c :: rest, d, env, h, e, i => by
    obtain ⟨env1, e1, st⟩ := step d c rest env h e i
    rw [List.map_cons, forL_cons (hs _ _ _ i), e1, someI_some]
    rcases st with ⟨env2, h2, e2, i2⟩ | ⟨r, env2, h2, e2, q⟩
    · rw [e2, thenSI_nx]
      exact relXA Q A I hs step post rest (d ++ [c]) env2 h2 (by rw [e, List.append_assoc]; rfl) i2
    · rw [e2, thenSI_rt, thenSI_rt]
      exact q
theorem relX (Q : Out → Prop) (A : α → D) (I : List α → Env → Hm → Prop) {env : Env} {h : Hm} {k : Env → Hm → Out} (i0 : I [] env h) (hs : ∀ d env h, I d env h → stays gd h)
    (step : ∀ d c rest env h, cs = d ++ c :: rest → I d env h → ∃ env1, asgT g (A c) env = some env1 ∧ ((∃ env2 h2, fb env1 h = some (.nx, env2, h2) ∧ I (d ++ [c]) env2 h2) ∨ (∃ r env2 h2, fb env1 h = some (.rt r, env2, h2) ∧ Q (some (.rt r, env2, h2)))))
    (post : ∀ env' h', I cs env' h' → Q (k env' h')) : Q (@thenSI (forL fb g gd (cs.map A) env h) k) := relXA Q A I hs step post cs [] env h rfl i0
theorem findO (Q : Out → Prop) (A : α → D) (p : α → Bool) (E : Env → Prop) {env : Env} {h : Hm} {k : Env → Hm → Out} (e0 : E env) (hs : stays gd h)
    (go : ∀ c ∈ cs, p c = false → ∀ env, E env → ∃ env1, asgT g (A c) env = some env1 ∧ ∃ env2, fb env1 h = some (.nx, env2, h) ∧ E env2)
    (out : ∀ c ∈ cs, p c = true → ∀ env, E env → ∃ env1, asgT g (A c) env = some env1 ∧ ∃ r env2, fb env1 h = some (.rt r, env2, h) ∧ Q (some (.rt r, env2, h)))
    (post : (∀ c ∈ cs, p c = false) → ∀ env', E env' → Q (k env' h)) : Q (@thenSI (forL fb g gd (cs.map A) env h) k) := by
  refine relX Q A (fun d env h' => E env ∧ h' = h ∧ ∀ c ∈ d, p c = false) ⟨e0, rfl, fun c hc => by cases hc⟩ (fun d env h' i => i.2.1 ▸ hs) ?_ ?_
  · rintro d c rest env h' e ⟨i1, rfl, i3⟩
    have hc : c ∈ cs := by rw [e]; simp
    cases hp : p c with
    | false =>
      obtain ⟨env1, e1, env2, e2, e3⟩ := go c hc hp env i1
      refine ⟨env1, e1, Or.inl ⟨env2, h', e2, e3, rfl, fun z hz => ?_⟩⟩
      rcases List.mem_append.mp hz with hz | hz
      · exact i3 z hz
      · rw [List.mem_singleton.mp hz]; exact hp
    | true =>
      obtain ⟨env1, e1, r, env2, e2, q⟩ := out c hc hp env i1
      exact ⟨env1, e1, Or.inr ⟨r, env2, h', e2, q⟩⟩
  · rintro env' h' ⟨i1, rfl, i3⟩
    exact post i3 env' i1
end
theorem compL_groA {α : Type} {fe : Env → Hm → Res D} {ft : Env → Hm → Res Bool} {g : Tg} {gd : List (Nat × O)} {env : Env} {h : Hm} (A F : α → D) (hgd : ∀ h', Gro h h' → stays gd h') : ∀ (cs : List α) (acc : List D) (h1 : Hm),
    (∀ c ∈ cs, ∃ env1, asgT g (A c) env = some env1 ∧ ∀ h', Gro h h' → h.next < h'.next → ft env1 h' = some (.ok true, h') ∧ ∃ h'', fe env1 h' = some (.ok (F c), h'') ∧ Gro h' h'') → Gro h h1 → h.next < h1.next → h1.get h.next = some (.lst acc) → acc.length + cs.length ≤ 1000000 →
    ∃ h', compL fe ft g gd h.next env (cs.map A) h1 = some (.ok (.ref h.next), h') ∧ Gro h h' ∧ h.next < h'.next ∧ h'.get h.next = some (.lst (acc ++ cs.map F))
  | [], acc, h1, hx, g1, n1, ha, hl => ⟨h1, by rw [List.map_nil, compL_nil (hgd h1 g1)], g1, n1, by rw [List.map_nil, List.append_nil]; exact ha⟩
  | x :: xs, acc, h1, hx, g1, n1, ha, hl => by
    obtain ⟨env1, e1, e2⟩ := hx x (List.mem_cons_self ..)
    obtain ⟨e3, h2, e4, g2⟩ := e2 h1 g1 n1
    have hlt : acc.length < lim := by unfold lim; rw [List.length_cons] at hl; omega
    have ha2 : h2.get h.next = some (.lst acc) := (g2.at_ _ n1).trans ha
    have hle := g2.le
    obtain ⟨h', i1, i2, i3, i4⟩ := compL_groA A F hgd xs (acc ++ [F x]) (h2.put h.next (.lst (acc ++ [F x]))) (fun y hy => hx y (List.mem_cons_of_mem _ hy)) ((g1.trans g2).put (Nat.le_refl _)) (by rw [put_next]; omega) (by rw [put_get, if_pos rfl]) (by rw [List.length_append]; rw [List.length_cons] at hl; simp; omega)
    refine ⟨h', ?_, i2, i3, by rw [i4, List.map_cons, List.append_assoc]; rfl⟩
    rw [List.map_cons]
    unfold compL
    rw [if_pos (hgd h1 g1), e1]
    simp only [e3, e4, bndN_ok, if_true, ha2, hlt]
    exact i1
theorem compL_gro {α : Type} {fe : Env → Hm → Res D} {ft : Env → Hm → Res Bool} {g : Tg} {gd : List (Nat × O)} {env : Env} {h : Hm} {cs : List α} (A F : α → D) (hgd : ∀ h', Gro h h' → stays gd h')
    (hx : ∀ c ∈ cs, ∃ env1, asgT g (A c) env = some env1 ∧ ∀ h', Gro h h' → h.next < h'.next → ft env1 h' = some (.ok true, h') ∧ ∃ h'', fe env1 h' = some (.ok (F c), h'') ∧ Gro h' h'') (hl : cs.length ≤ 1000000) :
    ∃ h', compL fe ft g gd h.next env (cs.map A) (h.new (.lst [])) = some (.ok (.ref h.next), h') ∧ Gro h h' ∧ h.next < h'.next ∧ h'.get h.next = some (.lst (cs.map F)) :=
  compL_groA A F hgd cs [] _ hx .new (Nat.lt_succ_self _) (by rw [new_get, if_pos rfl]) (by simpa using hl)
section
variable {h : Hm} {a : Nat} {xs : List D} {v x : D} {i : Int}
def insO (o : Option O) (a : Nat) (i : Int) (v : D) (h : Hm) : Res D := match o with
  | some (.lst xs) => if xs.length < 1000000 ∧ 0 ≤ i ∧ i < 2 ^ 62 then some (.ok .non, h.put a (.lst (xs.take i.toNat ++ [v] ++ xs.drop i.toNat))) else none
  | _ => none
@[simp] theorem insO_l (c : xs.length < 1000000 ∧ 0 ≤ i ∧ i < 2 ^ 62) : insO (some (.lst xs)) a i v h = some (.ok .non, h.put a (.lst (xs.take i.toNat ++ [v] ++ xs.drop i.toNat))) := if_pos c
@[simp] theorem ins_ref : bmD .insert (.ref a) [.int i, v] h = insO (h.get a) a i v h := by
  cases e : h.get a with
  | none => simp only [bmD, e]; rfl
  | some o => cases o <;> (simp only [bmD, e]; rfl)
@[simp] theorem rcv_ins : rcv .insert x h = (lstOf x h).isSome := id rfl
@[simp] theorem rcv_clear : rcv .clear x h = (lstOf x h).isSome := id rfl
def clrO (o : Option O) (a : Nat) (h : Hm) : Res D := match o with
  | some (.lst _) => some (.ok .non, h.put a (.lst []))
  | _ => none
@[simp] theorem clrO_l : clrO (some (.lst xs)) a h = some (.ok .non, h.put a (.lst [])) := id rfl
@[simp] theorem clr_ref : bmD .clear (.ref a) [] h = clrO (h.get a) a h := by
  cases e : h.get a with
  | none => simp only [bmD, e]; rfl
  | some o => cases o <;> (simp only [bmD, e]; rfl)
end
abbrev Rw := String × Option Int
def rwD (r : Rw) : D := .tup (.str (Str.ofString r.1) :: (match r.2 with
  | none => []
  | some v => [.int v]))
def rwP (r : Rw) : PyData := .tuple (.str (Str.ofString r.1) :: (match r.2 with
  | none => []
  | some v => [.int v]))
@[simp] theorem dat_rw (h : Hm) (n : Nat) (r : Rw) : dat h (n + 1) (rwD r) = some (rwP r) := by
  obtain ⟨w, x⟩ := r
  cases x <;> (unfold rwD rwP; simp [mapO])
@[simp] theorem mapO_rows (h : Hm) (n : Nat) (rs : List Rw) : mapO (dat h (n + 1)) (rs.map rwD) = some (rs.map rwP) := mapO_map _ _ _ rs fun c _ => dat_rw h n c
def okW (r : Rw) : Bool := PyData.strOk (Str.ofString r.1)
theorem lay_rows : ∀ rs : List Rw, rs.all okW = true → PyData.canLayAll0 (rs.map rwP) = true
  | [], _ => by simp only [List.map_nil, PyData.canLayAll0]
  | r :: rs, h => by
    rw [List.all_cons, Bool.and_eq_true] at h
    have h1 := h.1
    obtain ⟨w, x⟩ := r
    unfold okW at h1
    cases x <;> simp [rwP, PyData.canLayAll0, PyData.canLay0, lay_rows rs h.2, h1]
theorem dep_rows : ∀ rs : List Rw, PyData.depthAll (rs.map rwP) ≤ 1
  | [] => by simp only [List.map_nil, PyData.depthAll]; decide
  | r :: rs => by
    have := dep_rows rs
    obtain ⟨w, x⟩ := r
    cases x <;> (simp [rwP, PyData.depthAll, PyData.depth]; omega)
@[simp] theorem sh_rows (rs : List Rw) (h : rs.all okW = true) : SeqAt.shaped (.list (rs.map rwP)) = true := by
  have := dep_rows rs
  simp [SeqAt.shaped, PyData.canLay0, PyData.depth, lay_rows rs h]
  omega
def S.hd : S → S
  | .seq a _ => a
  | s => s
def S.tl : S → S
  | .seq _ b => b
  | s => s
def S.from : S → Nat → S
  | s, 0 => s
  | s, n + 1 => s.tl.from n
theorem seq_nx {P : Prog} {cl : Cl} {a b : S} {env env1 : Env} {h h1 : Hm} (e : ex P cl a env h = some (.nx, env1, h1)) : ex P cl (.seq a b) env h = ex P cl b env1 h1 := by rw [ex, e, thenS_nx]
@[simp] theorem gro_refl_s {h : Hm} : Gro h h := .refl
@[simp] theorem gro_new_s {h h' : Hm} {o : O} (g : Gro h h') : Gro h (h'.new o) := g.trans .new
@[simp] theorem c_isB (a b : Bool) {h : Hm} : cmpD .isN (.bl a) (.bl b) h = some (decide (a = b)) := id rfl
@[simp] theorem c_notB (a b : Bool) {h : Hm} : cmpD .notN (.bl a) (.bl b) h = some (!decide (a = b)) := id rfl
section
variable {h : Hm} {a : Nat} {xs : List D} {v x : D} {i : Int} {kvs : List (L2.Key × D)} {q : L2.Key}
def dgO (o : Option O) (k : D) : Option (Option D) := match o with
  | some (.dic kvs) => (key? k).map fun q => kget kvs q
  | some (.fzd kvs) => (key? k).map fun q => kget kvs q
  | _ => none
@[simp] theorem dgO_d (k : D) : dgO (some (.dic kvs)) k = (key? k).map fun q => kget kvs q := id rfl
@[simp] theorem dgO_z (k : D) : dgO (some (.fzd kvs)) k = (key? k).map fun q => kget kvs q := id rfl
@[simp] theorem dget_eq (k : D) : dget h a k = dgO (h.get a) k := by
  unfold dget dgO
  cases h.get a with
  | none => rfl
  | some o => cases o <;> rfl
@[simp] theorem key_i : key? (.int i) = some (.inl i) := id rfl
@[simp] theorem key_s (s : Str) : key? (.str s) = some (.inr s) := id rfl
def dpO (o : Option O) (h : Hm) (a : Nat) (k v : D) : Option Hm := match o with
  | some (.dic kvs) => if kvs.length < 1000000 then (key? k).map fun q => h.put a (.dic (kput kvs q v)) else none
  | _ => none
@[simp] theorem dpO_d (k v : D) (c : kvs.length < 1000000) : dpO (some (.dic kvs)) h a k v = (key? k).map fun q => h.put a (.dic (kput kvs q v)) := if_pos c
@[simp] theorem dput_eq (k v : D) : dput h a k v = dpO (h.get a) h a k v := by
  unfold dput dpO
  cases h.get a with
  | none => rfl
  | some o => cases o <;> rfl
def inRO (x : D) (o : Option O) : Option Bool := match o with
  | some (.lst xs) => inL x xs
  | some (.fz xs) => inL x xs
  | some (.dic kvs) => ((key? x).map fun q => kget kvs q).map Option.isSome
  | some (.fzd kvs) => ((key? x).map fun q => kget kvs q).map Option.isSome
  | _ => none
@[simp] theorem inRO_l : inRO x (some (.lst xs)) = inL x xs := id rfl
@[simp] theorem inRO_f : inRO x (some (.fz xs)) = inL x xs := id rfl
@[simp] theorem inRO_d : inRO x (some (.dic kvs)) = ((key? x).map fun q => kget kvs q).map Option.isSome := id rfl
@[simp] theorem in_ref : cmpD .inn x (.ref a) h = inRO x (h.get a) := by
  show inD x (.ref a) h = _
  unfold inD inRO
  dsimp only
  cases e : h.get a with
  | none => rfl
  | some o => cases o <;> (try rfl) <;> (simp only [dget_eq, e]; rfl)
@[simp] theorem nin_ref : cmpD .nin x (.ref a) h = (inRO x (h.get a)).map fun b => !b := by
  show (inD x (.ref a) h).map _ = _
  rw [← in_ref (h := h)]; rfl
def isDO (o : Option O) : Bool := match o with
  | some (.dic _) => true
  | some (.fzd _) => true
  | _ => false
@[simp] theorem isDO_z : isDO (some (.fzd kvs)) = true := id rfl
@[simp] theorem isDO_d : isDO (some (.dic kvs)) = true := id rfl
@[simp] theorem rcv_get : rcv .get (.ref a) h = isDO (h.get a) := by
  first
  | (simp only [rcv, rcv.isDic, isDO]; done)
  | (simp only [rcv, rcv.isDic, isDO]
     cases h.get a with
     | none => rfl
     | some o => cases o <;> rfl)
@[simp] theorem rcv_get2 : rcv .get2 (.ref a) h = isDO (h.get a) := rcv_get (a := a) (h := h)
@[simp] theorem rcv_dpop : rcv .dpop (.ref a) h = isDO (h.get a) := rcv_get (a := a) (h := h)
def getO (m : Option (Option D)) (d : D) (h : Hm) : Res D := match m with
  | some (some v) => some (.ok v, h)
  | some none => some (.ok d, h)
  | none => none
@[simp] theorem getO_s (m : Option D) (d : D) : getO (some m) d h = some (.ok (m.getD d), h) := by cases m <;> rfl
@[simp] theorem bm_get (k : D) : bmD .get (.ref a) [k] h = getO (dget h a k) .non h := by
  simp only [bmD]
  rcases dget h a k with _ | _ | _ <;> rfl
@[simp] theorem bm_get2 (k d : D) : bmD .get2 (.ref a) [k, d] h = getO (dget h a k) d h := by
  simp only [bmD]
  rcases dget h a k with _ | _ | _ <;> rfl
def dpopO (o : Option O) (a : Nat) (k : D) (h : Hm) : Res D := match o with
  | some (.dic kvs) => (match key? k with
    | some q => (match kget kvs q with
      | some v => some (.ok v, h.put a (.dic (kdrop kvs q)))
      | none => none)
    | none => none)
  | _ => none
@[simp] theorem dpopO_i (e : kget kvs (.inl i) = some v) : dpopO (some (.dic kvs)) a (.int i) h = some (.ok v, h.put a (.dic (kdrop kvs (.inl i)))) := by
  simp only [dpopO, key?, e]
@[simp] theorem bm_dpop (k : D) : bmD .dpop (.ref a) [k] h = dpopO (h.get a) a k h := by
  cases e : h.get a with
  | none => simp only [bmD, e]; rfl
  | some o => cases o <;> (simp only [bmD, e]; rfl)
@[simp] theorem lenO_d : lenO (some (.dic kvs)) h = some (.ok (.int kvs.length), h) := id rfl
@[simp] theorem truO_d : truO (some (.dic kvs)) = some (!kvs.isEmpty) := id rfl
end
section
variable {κ α : Type} [DecidableEq κ] {kvs : List (κ × α)}
@[simp] theorem kget_nil (k : κ) : kget ([] : List (κ × α)) k = none := id rfl
theorem kget_cons (p : κ × α) (k : κ) : kget (p :: kvs) k = if p.1 = k then some p.2 else kget kvs k := by
  unfold kget
  rw [List.find?_cons]
  by_cases h : p.1 = k
  · rw [if_pos h]; simp [h]
  · rw [if_neg h]; simp [h]
end
section
variable {h : Hm} {s z : Str} {i k : Int}
@[simp] theorem len_str (c : s.length ≤ 1000000) : biD .len [.str s] h = some (.ok (.int s.length), h) := if_pos c
@[simp] theorem b_addS {t : Str} (c : s.length + t.length ≤ 1000000) : binD .add (.str s) (.str t) h = some (.ok (.str (s ++ t)), h) := if_pos c
@[simp] theorem b_mulS (c : s.length = 1 ∧ 2 ≤ k ∧ k ≤ 10000) : binD .mul (.str s) (.int k) h = some (.ok (.str (repS s k)), h) := if_pos c
@[simp] theorem slc_str {lo hi : Option Int} (c : z.length ≤ 1000000) : slcD (.str z) lo hi h = some (.ok (.str (cutT z lo hi)), h) := if_pos c
theorem idx_str (c : z.length ≤ 1000000) {x : Nat} (e : atD z.cps.toList i = some x) : idxD (.str z) (.int i) h = some (.str ⟨#[x]⟩) := by
  show (if z.length ≤ 1000000 then (atD z.cps.toList i).map _ else none) = _
  rw [if_pos c, e]; rfl
@[simp] theorem bi_str (c : -(2 ^ 250) < i ∧ i < 2 ^ 250) : biD .str [.int i] h = some (.ok (.str (Str.ofString (toString i))), h) := if_pos c
theorem bi_intS {n : Int} (c : s.length ≤ 640) (e : intText? s = some n) : biD .int [.str s] h = some (.ok (.int n), h) := by
  simp only [biD, e]
  exact if_pos c
@[simp] theorem walk_str : walk .seq [.str z] h = some (z.cps.toList.map fun c => .str ⟨#[c]⟩, []) := id rfl
@[simp] theorem find_str {y : Str} : bmD .find (.str z) [.str y] h = some (.ok (.int (PySem.Txt.find z y)), h) := id rfl
@[simp] theorem rcv_find : rcv .find (.str z) h = true := id rfl
end
theorem str_app_len (s t : Str) : (s ++ t).length = s.length + t.length := by
  show (s.cps ++ t.cps).size = _
  rw [Array.size_append]; rfl
theorem cutT_len (z : Str) (lo hi : Option Int) : (cutT z lo hi).length ≤ z.length := by
  unfold cutT Str.length
  simp
  omega
theorem ints_map : ∀ us : List Int, ints? (us.map D.int) = some us
  | [] => rfl
  | x :: xs => by simp only [List.map_cons, ints?, ints_map xs, Option.map_some]
def repO (o : Option O) (k : Int) (h : Hm) : Res D := match o with
  | some (.lst xs) => if rng62 k ∧ xs.length * k.toNat ≤ 1000000 then some (.ok (.ref h.next), h.new (.lst (List.replicate k.toNat xs).flatten)) else none
  | _ => none
@[simp] theorem repO_l {xs : List D} {k : Int} {h : Hm} (c : (-(2 ^ 62) ≤ k ∧ k < 2 ^ 62) ∧ xs.length * k.toNat ≤ 1000000) : repO (some (.lst xs)) k h = some (.ok (.ref h.next), h.new (.lst (List.replicate k.toNat xs).flatten)) := if_pos c
@[simp] theorem rep_ref {a : Nat} {k : Int} {h : Hm} : binD .mul (.ref a) (.int k) h = repO (h.get a) k h := by
  cases e : h.get a with
  | none => simp only [binD, e]; rfl
  | some o => cases o <;> (simp only [binD, e]; rfl)
theorem ex_for_eq {P : Prog} {cl : Cl} {g : Tg} {k : ItK} {es : Es} {body : S} {env : Env} {h h1 : Hm} {vs items : List D} {gd : List (Nat × O)} (he : evs P cl es env h = some (.ok vs, h1)) (hw : walk k vs h1 = some (items, gd)) :
    ex P cl (.for_ g k es body) env h = forL (fun e1 h2 => ex P cl body e1 h2) g gd items env h1 := by rw [ex_for, he, toSI_ok, hw, walkI_some]
theorem strs_map : ∀ us : List Str, strs? (us.map D.str) = some us
  | [] => rfl
  | x :: xs => by simp only [List.map_cons, strs?, strs_map xs, Option.map_some]
theorem bi_minD {h : Hm} {a : Nat} {ns : List Int} {d : Int} (e : h.get a = some (.lst (ns.map D.int))) : biD .minD [.ref a, .int d] h = some (.ok (.int (lmin d ns)), h) := by
  simp only [biD, lstOf, e, ints_map]; rfl
theorem bm_join {z : Str} {a : Nat} {ys : List Str} {h : Hm} (e : h.get a = some (.lst (ys.map D.str))) (c : (ys.map (·.length)).sum + ys.length * z.length ≤ 16777216) : bmD .join (.str z) [.ref a] h = some (.ok (.str (PySem.Txt.join z ys)), h) := by
  simp only [bmD, seqOf, e, strs_map]
  exact if_pos c
@[simp] theorem rcv_join {z : Str} {h : Hm} : rcv .join (.str z) h = true := id rfl
@[simp] theorem rcv_split {z : Str} {h : Hm} : rcv .split (.str z) h = true := id rfl
@[simp] theorem rcv_part {z : Str} {h : Hm} : rcv .partition (.str z) h = true := id rfl
theorem bm_split {z y : Str} {h : Hm} (c : (y.length == 0) = false ∧ z.length ≤ 1000000) : bmD .split (.str z) [.str y] h = some (.ok (.ref h.next), h.new (.lst ((PySem.Txt.split z y).map .str))) := if_pos c
@[simp] theorem isTn_sb : isTn "str" .bool = false := by decide
@[simp] theorem isTn_si : isTn "str" .int = false := by decide
@[simp] theorem isTn_is : isTn "int" .str = false := by decide
theorem join_le (y : Str) (ps : List Str) : (Txt.join y ps).length ≤ (ps.map (·.length)).sum + ps.length * y.length := by
  cases ps with
  | nil => exact Nat.zero_le _
  | cons a l =>
    have key : ∀ (l : List Str) (acc : Array Nat), (List.foldl (fun acc (p : Str) => acc ++ y.cps ++ p.cps) acc l).size = acc.size + (l.map (·.length)).sum + l.length * y.length := by
      intro l
      induction l with
      | nil => intro acc; simp
      | cons p r ih =>
        intro acc
        rw [List.foldl_cons, ih, Array.size_append, Array.size_append, List.map_cons, List.sum_cons, List.length_cons, Nat.succ_mul]
        show acc.size + y.length + p.length + _ + _ = _
        omega
    have := key l a.cps
    show (List.foldl (fun acc (p : Str) => acc ++ y.cps ++ p.cps) a.cps l).size ≤ _
    rw [this, List.map_cons, List.sum_cons, List.length_cons, Nat.succ_mul]
    show a.length + _ + _ ≤ _
    omega
end Z

set_option maxRecDepth 100000
set_option maxHeartbeats 2000000
namespace Z
open PySem
set_option checkBinderAnnotations false
section
variable {P : Prog} {cl : Cl} {env : Env} {h : Hm} {β : Type} {a : Nat} {kvs : List (L2.Key × D)} {kts : List (List L2.Key × D)} {xs : List D}
def lckG (m : Option O) [f : O → O → Option β] : Option β := match m with
  | some o => (match lckO o with
    | some o' => f o o'
    | none => none)
  | none => none
def lckI (m : Option (Option D)) (h : Hm) [f : Nat → O → O → Option β] : Option β := match m with
  | some (some (.ref a)) => @lckG β (h.get a) (f a)
  | _ => none
@[simp] theorem lckI_ref (f : Nat → O → O → Option β) : @lckI β (some (some (.ref a))) h f = @lckG β (h.get a) (f a) := id rfl
@[simp] theorem lckG_d (f : O → O → Option β) : @lckG β (some (.dic kvs)) f = f (.dic kvs) (.fzd kvs) := id rfl
@[simp] theorem lckG_t (f : O → O → Option β) : @lckG β (some (.dit kts)) f = f (.dit kts) (.fzt kts) := id rfl
@[simp] theorem frzO_d : frzO (some (.fzd kvs)) = true := id rfl
@[simp] theorem frzO_t : frzO (some (.fzt kts)) = true := id rfl
@[simp] theorem ev_lck (i : Nat) (e : E) : ev P cl (.lck i e) env h = @lckI _ env[i]? h fun a o o' => @bndNI _ _ (ev P cl e env (h.put a o')) fun x h2 => if frzO (h2.get a) = true then ok x (h2.put a o) else none := by
  rw [ev]; unfold lckI lckG bndNI
  cases env[i]? with
  | none => rfl
  | some m =>
    cases m with
    | none => rfl
    | some d => cases d <;> rfl
def lckS (m : Out) (a : Nat) (o : O) : Out := match m with
  | some (.nx, env2, h2) => if frzO (h2.get a) = true then some (.nx, env2, h2.put a o) else none
  | some (.rt d, env2, h2) => if frzO (h2.get a) = true then some (.rt d, env2, h2.put a o) else none
  | _ => none
@[simp] theorem lckS_nx {h2 : Hm} {env2 : Env} {o : O} (c : frzO (h2.get a) = true) : lckS (some (.nx, env2, h2)) a o = some (.nx, env2, h2.put a o) := if_pos c
@[simp] theorem lckS_rt {h2 : Hm} {env2 : Env} {o : O} {d : D} (c : frzO (h2.get a) = true) : lckS (some (.rt d, env2, h2)) a o = some (.rt d, env2, h2.put a o) := if_pos c
@[simp] theorem ex_lck (i : Nat) (s : S) : ex P cl (.lck i s) env h = @lckI _ env[i]? h fun a o o' => lckS (ex P cl s env (h.put a o')) a o := by
  have key : ∀ m : Option (Option D), (match m with
    | some (some (.ref a)) => (match h.get a with
      | some o => (match lckO o with
        | some o' => lckS (ex P cl s env (h.put a o')) a o
        | none => none)
      | none => none)
    | _ => none) = @lckI _ m h fun a o o' => lckS (ex P cl s env (h.put a o')) a o := fun m => by
    cases m with
    | none => rfl
    | some m => cases m with
      | none => rfl
      | some d => cases d <;> rfl
  rw [← key, ex]
  cases env[i]? with
  | none => rfl
  | some m =>
    cases m with
    | none => rfl
    | some d =>
      cases d with
      | ref a =>
        cases h.get a with
        | none => rfl
        | some o =>
          dsimp only
          cases lckO o with
          | none => rfl
          | some o' =>
            try dsimp only
            unfold lckS
            cases ex P cl s env (h.put a o') with
            | none => rfl
            | some r =>
              obtain ⟨fl, _, _⟩ := r
              cases fl <;> rfl
      | _ => rfl
@[simp] theorem ev_rsl (e : E) : ev P cl (.rsl e) env h = @bndI _ _ (ev P cl e env h) fun x h1 => @someI _ _ (lstOf x h1) fun xs => ok (.ref h1.next) (h1.new (.lst xs.reverse)) := by
  rw [ev]
  refine congrArg (bnd _) (funext fun x => funext fun h1 => ?_)
  cases lstOf x h1 <;> rfl
@[simp] theorem ev_dictT : ev P cl .dictT env h = ok (.ref h.next) (h.new (.dit [])) := by rw [ev]
@[simp] theorem ev_dgtT (e : E) (es : Es) : ev P cl (.dgtT e es) env h = @bndI _ _ (ev P cl e env h) fun x h1 => @bndI _ _ (evs P cl es env h1) fun ks h2 => (match x with
    | .ref p => if ks.length ≤ 1000000 then dgtO (dgetT h2 p ks) h2 else none
    | _ => none) := by rw [ev] <;> rfl
def gotO (m : Option (Option D)) (d : D) (h : Hm) : Res D := match m with
  | some (some v) => ok v h
  | some none => ok d h
  | none => none
@[simp] theorem gotO_s (m : Option D) (d : D) : gotO (some m) d h = some (.ok (m.getD d), h) := by cases m <;> rfl
def isTO (o : Option O) : Bool := match o with
  | some (.dit _) => true
  | some (.fzt _) => true
  | _ => false
@[simp] theorem isTO_d : isTO (some (.dit kts)) = true := id rfl
@[simp] theorem isTO_z : isTO (some (.fzt kts)) = true := id rfl
@[simp] theorem ev_getT (e : E) (es : Es) (d : Cst) : ev P cl (.getT e es d) env h = @bndI _ _ (ev P cl e env h) fun x h1 => (match x with
    | .ref p => if isTO (h1.get p) = true then @bndI _ _ (evs P cl es env h1) fun ks h2 => if ks.length ≤ 1000000 then gotO (dgetT h2 p ks) d.d h2 else none else none
    | _ => none) := by
  rw [ev]
  refine congrArg (bnd _) (funext fun x => funext fun h1 => ?_)
  cases x with
  | ref p =>
    dsimp only [dgetT]
    cases h1.get p with
    | none => rfl
    | some o => cases o <;> rfl
  | _ => rfl
def dtO (o : Option O) (ks : List D) : Option (Option D) := match o with
  | some (.dit kvs) => (keys? ks).map fun q => kget kvs q
  | some (.fzt kvs) => (keys? ks).map fun q => kget kvs q
  | _ => none
@[simp] theorem dtO_d (ks : List D) : dtO (some (.dit kts)) ks = (keys? ks).map fun q => kget kts q := id rfl
@[simp] theorem dtO_z (ks : List D) : dtO (some (.fzt kts)) ks = (keys? ks).map fun q => kget kts q := id rfl
@[simp] theorem dgetT_eq (ks : List D) : dgetT h a ks = dtO (h.get a) ks := by
  unfold dgetT dtO
  cases h.get a with
  | none => rfl
  | some o => cases o <;> rfl
@[simp] theorem keys_nil : keys? [] = some [] := id rfl
@[simp] theorem keys_ii (i j : Int) : keys? [.int i, .int j] = some [.inl i, .inl j] := id rfl
def dptO (o : Option O) (h : Hm) (a : Nat) (ks : List D) (v : D) : Option Hm := match o with
  | some (.dit kvs) => if kvs.length < 1000000 then (keys? ks).map fun q => h.put a (.dit (kput kvs q v)) else none
  | _ => none
@[simp] theorem dptO_d (ks : List D) (v : D) (c : kts.length < 1000000) : dptO (some (.dit kts)) h a ks v = (keys? ks).map fun q => h.put a (.dit (kput kts q v)) := if_pos c
@[simp] theorem dputT_eq (ks : List D) (v : D) : dputT h a ks v = dptO (h.get a) h a ks v := by
  unfold dputT dptO
  cases h.get a with
  | none => rfl
  | some o => cases o <;> rfl
@[simp] theorem ex_dputT (o : E) (es : Es) (e : E) : ex P cl (.dputT o es e) env h = @toSI _ (ev P cl e env h) env fun x h1 => @toSI _ (ev P cl o env h1) env fun y h2 => @toSI _ (evs P cl es env h2) env fun ks h3 => (match y with
    | .ref p => if ks.length ≤ 1000000 then @someI _ _ (dputT h3 p ks x) fun h4 => nxt env h4 else none
    | _ => none) := by
  rw [ex]
  refine congrArg (toS _ _) (funext fun x => funext fun h1 => ?_)
  refine congrArg (toS _ _) (funext fun y => funext fun h2 => ?_)
  refine congrArg (toS _ _) (funext fun ks => funext fun h3 => ?_)
  cases y with
  | ref p =>
    show (if ks.length ≤ lim then _ else none) = if ks.length ≤ lim then _ else none
    cases dputT h3 p ks x <;> rfl
  | _ => rfl
@[simp] theorem ev_new0 (c : String) : ev P cl (.new0 c) env h = ok (.ref h.next) (h.new (.ins c [])) := by rw [ev]
@[simp] theorem ev_isc (e : E) (c : String) : ev P cl (.isc e c) env h = @bndI _ _ (ev P cl e env h) fun x h1 => (match x with
    | .ref p => @insB _ (h1.get p) fun c1 _ => liftO ((P.sub c1 c).map .bl) h1
    | _ => none) := by rw [ev] <;> rfl
def wkO (o : Option O) : Option (List D × List (Nat × O)) := match o with
  | some (.fzd kvs) => some (kvs.map fun kv => keyD kv.1, [])
  | some (.fzt kvs) => some (kvs.map fun kv => .tup (kv.1.map keyD), [])
  | _ => none
@[simp] theorem wkO_d : wkO (some (.fzd kvs)) = some (kvs.map fun kv => keyD kv.1, []) := id rfl
@[simp] theorem wkO_t : wkO (some (.fzt kts)) = some (kts.map fun kv => .tup (kv.1.map keyD), []) := id rfl
@[simp] theorem walk_keys : walk .keys [.ref a] h = wkO (h.get a) := by
  cases e : h.get a with
  | none => simp only [walk, e]; rfl
  | some o => cases o <;> (simp only [walk, e]; rfl)
def wiO (o : Option O) : Option (List D × List (Nat × O)) := match o with
  | some (.fzd kvs) => some (kvs.map fun kv => .tup [keyD kv.1, kv.2], [])
  | _ => none
@[simp] theorem wiO_d : wiO (some (.fzd kvs)) = some (kvs.map fun kv => .tup [keyD kv.1, kv.2], []) := id rfl
@[simp] theorem walk_items : walk .items [.ref a] h = wiO (h.get a) := by
  cases e : h.get a with
  | none => simp only [walk, e]; rfl
  | some o => cases o <;> (simp only [walk, e]; rfl)
def wvO (o : Option O) : Option (List D × List (Nat × O)) := match o with
  | some (.fzd kvs) => some (kvs.map fun kv => kv.2, [])
  | _ => none
@[simp] theorem wvO_d : wvO (some (.fzd kvs)) = some (kvs.map fun kv => kv.2, []) := id rfl
@[simp] theorem walk_vals : walk .vals [.ref a] h = wvO (h.get a) := by
  cases e : h.get a with
  | none => simp only [walk, e]; rfl
  | some o => cases o <;> (simp only [walk, e]; rfl)
@[simp] theorem inRO_z (x : D) : inRO x (some (.fzd kvs)) = ((key? x).map fun q => kget kvs q).map Option.isSome := id rfl
@[simp] theorem keyD_l (i : Int) : keyD (.inl i) = .int i := id rfl
@[simp] theorem keyD_r (i : Str) : keyD (.inr i) = .str i := id rfl
end
def S.bd : S → S
  | .for_ _ _ _ b => b
  | .wh _ b => b
  | .lck _ (.for_ _ _ _ b) => b
  | s => s
def dicO (o : Option O) (h : Hm) : Res D := match o with
  | some (.dic kvs) => ok (.ref h.next) (h.new (.dic kvs))
  | _ => none
@[simp] theorem dicO_d {kvs : List (L2.Key × D)} {h : Hm} : dicO (some (.dic kvs)) h = some (.ok (.ref h.next), h.new (.dic kvs)) := id rfl
@[simp] theorem bi_dict {a : Nat} {h : Hm} : biD .dict [.ref a] h = dicO (h.get a) h := by
  cases e : h.get a with
  | none => simp only [biD, e]; rfl
  | some o => cases o <;> (simp only [biD, e]; rfl)
@[simp] theorem in_tupT (is own : List Nat) : Tg.in_ (.tup is) own = is.all own.contains := id rfl
section
variable {P : Prog} {cl : Cl} {env : Env} {h : Hm}
@[simp] theorem ex_par (i j : Nat) (es : Es) : ex P cl (.par i j es) env h = @toSI _ (evs P cl es env h) env fun vs h1 => (match vs with
    | [x, y] => nxt ((env.set i (some x)).set j (some y)) h1
    | _ => none) := by rw [ex]; rfl
theorem ex_try_nx {b s : S} {c : String} {x : Option Nat} {env2 : Env} {h2 : Hm} (e : ex P cl b env h = some (.nx, env2, h2)) : ex P cl (.try_ b c x s) env h = some (.nx, env2, h2) := by rw [ex, e]
theorem ex_try_ex {b s : S} {c k : String} {env2 env3 : Env} {h2 h3 : Hm} (e : ex P cl b env h = some (.ex k, env2, h2)) (hk : P.exm k c = some true) (e2 : ex P cl s env2 h2 = some (.nx, env3, h3)) : ex P cl (.try_ b c none s) env h = some (.nx, env3, h3) := by
  rw [ex, e]
  simp only [hk, e2]
def walkZ (o o' : Option O) (a b : Nat) : Option (List D × List (Nat × O)) := match o, o' with
  | some (.lst xs), some (.lst ys) => some ((xs.zip ys).map fun p => .tup [p.1, p.2], [(a, .lst xs), (b, .lst ys)])
  | _, _ => none
@[simp] theorem walkZ_l {xs ys : List D} {a b : Nat} : walkZ (some (.lst xs)) (some (.lst ys)) a b = some ((xs.zip ys).map fun p => .tup [p.1, p.2], [(a, .lst xs), (b, .lst ys)]) := id rfl
@[simp] theorem walk_zip {a b : Nat} : walk .zip [.ref a, .ref b] h = walkZ (h.get a) (h.get b) a b := by
  cases e : h.get a with
  | none => simp only [walk, e]; rfl
  | some o =>
    cases e2 : h.get b with
    | none => simp only [walk, e, e2]; cases o <;> rfl
    | some o2 => simp only [walk, e, e2]; cases o <;> cases o2 <;> rfl
end
def prD (q : Int × Int) : D := .tup [.int q.1, .int q.2]
def prP (q : Int × Int) : PyData := .tuple [.int q.1, .int q.2]
section
variable {P : Prog} {cl : Cl} {env : Env} {h : Hm}
@[simp] theorem ev_isx (i : Nat) (c : String) : ev P cl (.isx i c) env h = (match env[i]? with
    | some (some (.exc k a)) => if P.xk = some (k, a) then liftO ((P.exs k c).map .bl) h else none
    | _ => none) := by rw [ev] <;> rfl
@[simp] theorem ev_isxB (i : Nat) (c : String) : ev P cl (.isxB i c) env h = (match env[i]? with
    | some (some (.exc k a)) => if P.xk = some (k, a) then liftO ((P.exb k c).map .bl) h else none
    | _ => none) := by rw [ev] <;> rfl
theorem ex_try_as {b s : S} {c k : String} {i : Nat} {env2 env3 : Env} {h2 h3 : Hm} (e : ex P cl b env h = some (.ex k, env2, h2)) (hk : P.exm k c = some true)
    (e2 : ∀ a, ∃ env4, ex { P with xk := some (k, a) } cl s (env2.set i (some (.exc k a))) h2 = some (.nx, env4, h3) ∧ env4.set i none = env3) : ex P cl (.try_ b c (some i) s) env h = some (.nx, env3, h3) := by
  rw [ex, e]
  simp only [hk]
  refine oneA_ok fun a => ?_
  obtain ⟨env4, e4, e5⟩ := e2 a
  rw [e4, ← e5]; rfl
end
end Z

namespace Z
open L2 PySem PySem.Spec PyProof.Rows
def nestT (b : S) : List (String × S) → S
  | [] => b
  | p :: r => nestT (.try_ b p.1 none p.2) r
abbrev hdT (K : PySem.W.Frag) (c : RC) (p : String × S) : Value × (Addr → Value → Option Addr → TS) := (.ref (ca K p.1), fun _ _ _ => rdS (c.with noW) p.2)
def walkE (o : Option O) (a : Nat) : Option (List D × List (Nat × O)) := match o with
  | some (.lst xs) => some (xs.zipIdx.map fun p => .tup [.int (p.2 : Nat), p.1], [(a, .lst xs)])
  | _ => none
@[simp] theorem walkE_l {xs : List D} {a : Nat} : walkE (some (.lst xs)) a = some (xs.zipIdx.map fun p => .tup [.int (p.2 : Nat), p.1], [(a, .lst xs)]) := id rfl
theorem bi_lset {a : Nat} {ns : List Int} {h : Hm} (e : h.get a = some (.lst (ns.map D.int))) (nd : ns.Nodup) (hl : ns.length ≤ 4000) : biD .lset [.ref a] h = some (.ok (.int (ns.length : Nat)), h) := by
  have e2 : ints? (ns.map D.int) = some ns := by
    clear e nd hl
    induction ns with
    | nil => rfl
    | cons n ns ih => simp only [List.map_cons, ints?, ih, Option.map_some]
  simp only [biD, lstOf, e, e2, nd, hl, and_self, if_true]
  rfl
section
variable {P : Prog} {cl : Cl} {env : Env} {h : Hm}
def fmtO (x : D) (h : Hm) : Res D := match x with
  | .str y => if y.length ≤ lim then ok (.str y) h else none
  | .int i => if big i then ok (.str (Str.ofString (toString i))) h else none
  | _ => none
@[simp] theorem fmtO_s {y : Str} (c : y.length ≤ 1000000) : fmtO (.str y) h = some (.ok (.str y), h) := if_pos c
theorem fmtO_i {i : Int} (c : -(2 ^ 250) < i ∧ i < 2 ^ 250) : fmtO (.int i) h = some (.ok (.str (Str.ofString (toString i))), h) := if_pos c
@[simp] theorem ev_fmt (a : E) : ev P cl (.fmt a) env h = @bndI _ _ (ev P cl a env h) fun x h1 => fmtO x h1 := by rw [ev]; rfl
@[simp] theorem ev_fst (es : Es) : ev P cl (.fst es) env h = evJ P cl es Str.empty env h := by rw [ev]
set_option checkBinderAnnotations false in
def joinI (x : D) (acc : Str) [k : Str → Res D] : Res D := match x with
  | .str y => if (acc ++ y).length ≤ lim then k (acc ++ y) else none
  | _ => none
@[simp] theorem joinI_s {acc y : Str} (k : Str → Res D) (c : (acc ++ y).length ≤ 1000000) : @joinI (.str y) acc k = k (acc ++ y) := if_pos c
@[simp] theorem evJ_nil (acc : Str) : evJ P cl .nil acc env h = some (.ok (.str acc), h) := by rw [evJ]; rfl
@[simp] theorem evJ_cons (e : E) (es : Es) (acc : Str) : evJ P cl (.cons e es) acc env h = @bndI _ _ (ev P cl e env h) fun x h1 => @joinI x acc fun z => evJ P cl es z env h1 := by
  rw [evJ]
  unfold bndI
  refine congrArg _ (funext fun x => funext fun h1 => ?_)
  cases x <;> rfl
@[simp] theorem ev_lrg (a : E) : ev P cl (.lrg a) env h = @bndI _ _ (ev P cl a env h) fun x h1 => (match x with
    | .int n => if 0 ≤ n ∧ n ≤ 1000000 then ok (.ref h1.next) (h1.new (.lst ((List.range n.toNat).map fun (i : Nat) => .int (i : Int)))) else none
    | _ => none) := by rw [ev] <;> rfl
@[simp] theorem ev_iso (a : E) (c : String) : ev P cl (.iso a c) env h = @bndI _ _ (ev P cl a env h) fun x h1 => (match x with
    | .xob k => liftO ((P.exs k c).map .bl) h1
    | _ => none) := by rw [ev] <;> rfl
@[simp] theorem ev_isoB (a : E) (c : String) : ev P cl (.isoB a c) env h = @bndI _ _ (ev P cl a env h) fun x h1 => (match x with
    | .xob k => liftO ((P.exb k c).map .bl) h1
    | _ => none) := by rw [ev] <;> rfl
def augO (op : Bop) (x v : D) (o : Option O) (k : Nat) (h3 : Hm) (p : Nat) (env : Env) : Out := match augD op x v, o with
  | some w, some (.lst ys) => if k < ys.length then nxt env (h3.put p (.lst (ys.set k w))) else none
  | _, _ => none
@[simp] theorem augO_add (i j : Int) (ys : List D) (k : Nat) (h3 : Hm) (p : Nat) (env : Env) : augO .add (.int i) (.int j) (some (.lst ys)) k h3 p env = if k < ys.length then nxt env (h3.put p (.lst (ys.set k (.int (i + j))))) else none := id rfl
@[simp] theorem augO_sub (i j : Int) (ys : List D) (k : Nat) (h3 : Hm) (p : Nat) (env : Env) : augO .sub (.int i) (.int j) (some (.lst ys)) k h3 p env = if k < ys.length then nxt env (h3.put p (.lst (ys.set k (.int (i - j))))) else none := id rfl
@[simp] theorem ex_augi (o i : E) (op : Bop) (e : E) : ex P cl (.augi o i op e) env h = @toSI _ (ev P cl o env h) env fun y h1 => @toSI _ (ev P cl i env h1) env fun z h2 => (match y, z with
    | .ref p, .int k => @lstI _ (h2.get p) fun xs => if 0 ≤ k then @someI _ _ (xs[k.toNat]?) fun x => @toSI _ (ev P cl e env h2) env fun v h3 => augO op x v (h3.get p) k.toNat h3 p env else none
    | _, _ => none) := by
  rw [ex]
  unfold toSI
  refine congrArg _ (funext fun y => funext fun h1 => congrArg _ (funext fun z => funext fun h2 => ?_))
  cases y <;> try rfl
  cases z <;> try rfl
  rename_i p k
  simp only [lstI, someI]
  cases h2.get p with
  | none => rfl
  | some ob =>
    cases ob <;> try rfl
    rename_i xs
    by_cases hk : 0 ≤ k
    · simp only [if_pos hk]
      cases xs[k.toNat]? with
      | none => rfl
      | some x =>
        refine congrArg (toS (ev P cl e env h2) env) (funext fun v => funext fun h3 => ?_)
        unfold augO
        cases augD op x v with
        | none => rfl
        | some w =>
          cases h3.get p with
          | none => rfl
          | some o2 => cases o2 <;> rfl
    · simp only [if_neg hk]
@[simp] theorem walk_enum {a : Nat} : walk .enum [.ref a] h = walkE (h.get a) a := by
  cases e : h.get a with
  | none => simp only [walk, e]; rfl
  | some o => simp only [walk, e]; cases o <;> rfl
end
end Z

set_option maxRecDepth 100000
set_option maxHeartbeats 2000000
namespace L2
open PySem PySem.Spec PyProof.Rows

section
variable {X : Cx} {pins : List (Addr × Obj)} {σ : St} {H : Hp} {s s' : Shared}

theorem hide1_none {h : Heap} {C : Addr} : (PySem.W.hideAll h [C]).get? C = none := PySem.W.hideAll_none _ (List.mem_singleton.mpr rfl)
theorem hide1_get {h : Heap} {C b : Addr} {o : Obj} (e : h.get? b = some o) (n : b ≠ C) : (PySem.W.hideAll h [C]).get? b = some o := PySem.W.hideAll_get _ e fun m => n (List.mem_singleton.mp m)
theorem hide1_of {h : Heap} {C b : Addr} {o : Obj} (e : (PySem.W.hideAll h [C]).get? b = some o) : h.get? b = some o ∧ b ≠ C := ⟨PySem.W.of_hideAll _ e, fun z => by rw [z, hide1_none] at e; cases e⟩
theorem hide1_non {h : Heap} {C b : Addr} (e : h.get? b = none) : (PySem.W.hideAll h [C]).get? b = none := by
  cases q : (PySem.W.hideAll h [C]).get? b with
  | none => rfl
  | some o => rw [(hide1_of q).1] at e; cases e
theorem HOk.hide1 {P : Program} {w : World} {h : Heap} {C : Addr} (k : HOk P w H h) (n : H C = none) : HOk P w H (PySem.W.hideAll h [C]) := fun b u e => by
  refine (k b u e).stay (fun c v hc q => hide1_get q fun z => ?_) (fun _ q => q) fun _ _ q => q
  subst z
  rcases hc with hc | hc
  · rw [← hc, n] at e; cases e
  · rw [n] at hc; cases hc

theorem XE.of_sky {W : WX} {B : Heap} {a : Addr} {H' : Hp} {cls : Value} {d : Option Addr} (I : Inv X pins σ H s) (st : B.StaysIn s'.heap) (sky : Sky B X.stack a (Zc cls d) X.env.locals s'.heap)
    (hok : HOk X.prog X.w H' B) (ub : UB (frs X.stack) H H' s.heap B s'.heap) (na : H' a = none) (os : s'.os = s.os) (ag : AllBare s'.gens) (w : W cls d σ H') : XE X W (.ref a) s' := by
  obtain ⟨G, g1, g2⟩ := restrict s'.heap fun b => (B.get? b).isSome || decide (b ∈ frs X.stack)
  have gB : ∀ b o, B.get? b = some o → G.get? b = some o := fun b o e => (g1 b (by simp [e])).trans (st b o e)
  have gF : ∀ b, b ∈ frs X.stack → G.get? b = s'.heap.get? b := fun b hb => g1 b (by simp [hb])
  have og : ∀ b o, G.get? b = some o → s'.heap.get? b = some o ∧ ((B.get? b).isSome = true ∨ b ∈ frs X.stack) := fun b o e => by
    cases q : ((B.get? b).isSome || decide (b ∈ frs X.stack)) with
    | false => rw [g2 b q] at e; cases e
    | true => exact ⟨(g1 b q).symm.trans e, by simpa [Bool.or_eq_true] using q⟩
  refine ⟨a, B, { s with heap := G, gens := s'.gens, drawn := s'.drawn, toks := s'.toks }, pins, σ, H', cls, d, rfl, ?_, fun b o e hb => ?_, Heap.UpToSlots.of_keeps fun b o e => (og b o e).1, sky, na, os, ag, w⟩
  · refine I.call (ch := []) ⟨fun b o e n hb _ => gB b o (ub.keep b o e n hb), fun b o e n hb _ => ?_, fun b o e n _ => ub.free b o e n, fun b o e _ => ?_, ub.tups, ub.frzs, ub.tbls⟩ (hok.kept gB) ag (fun _ z => nomatch z)
    · obtain ⟨sl, q⟩ := ub.slot b o e hb
      exact ⟨sl, (gF b hb).trans q⟩
    · by_cases hb : b ∈ frs X.stack
      · obtain ⟨sl, q⟩ := ub.slot b o e hb
        exact ⟨_, (gF b hb).trans q⟩
      · obtain ⟨o', q⟩ := ub.there b o e hb
        exact ⟨o', gB b o' q⟩
  · obtain ⟨e', h⟩ := og b o e
    rcases h with h | h
    · obtain ⟨o', q⟩ := Option.isSome_iff_exists.mp h
      have z := st b o' q
      rw [e'] at z; cases z
      exact q
    · exact absurd h hb

theorem comp_lets_out {W : WX} {E : XK} {ce : Env} {u : Value} {m : Str → Option Value} (hs : X.stack = X.env :: X.outer) (hf : X.env.frame = some X.env.locals) (tk : Takes X W) (hcf : ce.frame = X.env.frame)
    (I : Inv X pins σ H s) (hn : s.heap.Ns ce.locals m) (f : FpOk X pins H ce.locals) (nst : ce.locals ∉ frs X.stack) (hW : ∀ cls d H', E cls d H' → W cls d σ H') (c : CX X.prog X.w X.stack H s E u s') :
    notedBy (model X.prog X.w) X.A ce (CompFails (model X.prog X.w) X.A X.xe ce) u s' := by
  have hfr : X.A.frames = some (X.env :: X.outer) := by rw [I.ok.frames, hs]
  obtain ⟨a, B, H', cls, d, rfl, fl, hok, ub, na, os, ag, hE⟩ := c
  obtain ⟨oC, esC, epC, hoC, hdC, rC⟩ := id hn
  have n' : H' ce.locals = none := ub.free _ _ hoC f.1
  have hnB : B.get? ce.locals = some oC := ub.keep _ _ hoC f.1 nst
  have hn' : s'.heap.Ns ce.locals m := ⟨oC, esC, epC, fl.1 _ _ hnB, hdC, rC⟩
  have fl' : HandSPX.FlyingZ B (X.env :: X.outer) a (Zc cls d) s'.heap := by rw [← hs]; exact fl
  show wpAny _ X.A (noteFrame (.ref a) ce) _ _ s'
  rw [noteFrame_env _ hcf]
  refine HandSPX.looks_onZ Zc.steady hfr hf fl' fun h1 hh1 up1 => ?_
  have hn1 : h1.Ns ce.locals m := hn'.upToSlots up1
  refine ⟨m, hn1, fun h2 m2 hn2 sb => ?_⟩
  obtain ⟨x1, x2, x3, oe, vs, T, oT, ts, he, hz, hd, hv1, hnT, hTe, hT, hdT, hv3⟩ := hh1
  obtain ⟨o1, es1, ep1, ho1, hd1, _⟩ := id hn1
  have neC : ∀ {b : Addr} {o : Obj} {xs : Array Value}, h1.get? b = some o → o.data = .fields xs → b ≠ ce.locals := fun {b o xs} e q z => by
    rw [z, ho1] at e; cases e
    rw [hd1] at q; cases q
  have hh2 : HandSPX.HeldZ (PySem.W.hideAll B [ce.locals]) (X.env :: X.outer) a (Zc cls d) X.env.locals h2 := by
    refine ⟨fun b o e => (sb.2 b (hide1_of e).2).trans (x1 b o (hide1_of e).1), hide1_non x2, ?_, oe, vs, T, oT, ts, (sb.2 a (neC he hd)).trans he, hz, hd, hv1, hide1_non hnT, hTe, (sb.2 T (neC hT hdT)).trans hT, hdT, hv3⟩
    exact Heap.FunFrames.sameBut sb hn2 (funFrames_none x3 fun b hb => hide1_non (x3.mem hb).1)
  obtain ⟨_, _, _, oe2, vs2, T2, _, _, he2, _, hd2, hv2, _⟩ := id hh2
  show wpAny _ _ (PySem.passOn "comprehension.variables-let-go" (.ref a) ce) _ _ _
  unfold PySem.passOn
  refine wpAny_bind (wpAny_field he2 hd2 hv2 ?_)
  rw [if_neg (show ¬ ((Value.ref T2 == Value.none) = true) from by simp)]
  have fin : wpAny (model X.prog X.w) X.A (setFlight (.ref a) ce.frame) (fun _ s4 => wpAny (model X.prog X.w) X.A (throw (.ref a) : Sem Value) (fun _ _ => False) X.xe s4) X.xe { s' with heap := h2 } := by
    rw [hcf, hf]
    refine HandSPX.setFlight_onZ hh2 fun h3 hh3 up3 => wpAny_throw (tk _ _ ?_)
    have I' : Inv X pins σ H { s with heap := PySem.W.hideAll s.heap [ce.locals], toks := s.toks } := I.turned (fun b o nb e => hide1_get e nb) f.1 f.2.1 f.2.2.2.1 f.2.2.2.2.1 f.2.2.2.2.2
    refine XE.of_sky (B := PySem.W.hideAll B [ce.locals]) (H' := H') (cls := cls) (d := d) I' hh3.1 (.inr (.inr (by rw [hs]; exact hh3))) (hok.hide1 n') ⟨fun b o e n hb => ?_, fun b o e hb => ?_, fun b o e n => ?_, fun b o e hb => ?_, ub.tups, ub.frzs, ub.tbls⟩ na os ag (hW _ _ _ hE)
    · obtain ⟨e1, e2⟩ := hide1_of e
      exact hide1_get (ub.keep b o e1 n hb) e2
    · obtain ⟨e1, e2⟩ := hide1_of e
      obtain ⟨_, o', e', hnf⟩ := I.stack.mem hb
      rw [e1] at e'; cases e'
      obtain ⟨sl, q1⟩ := ub.slot b o e1 hb
      obtain ⟨sl1, q2⟩ := up1 b _ q1 hnf
      obtain ⟨sl2, q3⟩ := up3 b _ ((sb.2 b e2).trans q2) hnf
      exact ⟨sl2, q3⟩
    · exact ub.free b o (hide1_of e).1 n
    · obtain ⟨e1, e2⟩ := hide1_of e
      obtain ⟨o', q⟩ := ub.there b o e1 hb
      exact ⟨o', hide1_get q e2⟩
  first
    | exact wpAny_bind (wpAny_pure (wpAny_bind fin))
    | exact wpAny_bind fin
end

section
variable {X : Cx}
theorem pe_lcX {elt tg iter : Expr} {ifs : List Expr} {scope : Scope} {own : List (Str × Nat)} {pos : Pos} {wi : TI} {g : TG} {tt : TT} {te : WX → TE} {W : WX} (hstk : X.stack = X.env :: X.outer) (hfrm : X.env.frame = some X.env.locals) (tk : Takes X W) (hc : X.calm = true) (hN : X.N.Nodup)
    (hi : PI X tg iter wi) (ok : BlkOk X.N X.env.scope scope own)
    (hg : ∀ (s : Shared) (H : Hp) (C : Addr) (cl : List (Str × Addr)) (fp : List Addr), PG (X.blk s H scope (compEnvC scope cl C X.env) fp) tg g) (ht : ∀ (s : Shared) (H : Hp) (C : Addr) (cl : List (Str × Addr)) (fp : List Addr), PTs (X.blk s H scope (compEnvC scope cl C X.env) fp) ifs tt)
    (he : ∀ (s : Shared) (H : Hp) (C : Addr) (cl : List (Str × Addr)) (fp : List Addr) (xe : Value → Shared → Prop) (W' : WX), (∀ σ', PassesAt (L2.CX X.prog X.w) ((X.blk s H scope (compEnvC scope cl C X.env) fp).wish xe) σ' (fun cls d H' => W' cls d σ' H')) →
      PE ((X.blk s H scope (compEnvC scope cl C X.env) fp).wish xe) elt (te W')) (hs : ∀ x, foldedSetIterable iter X.env x = pure x := by intro _; rfl) :
    PE X (.ListComp elt [⟨tg, iter, ifs, 0⟩] scope pos) (Z.tLcX wi g tt te W (own.map (·.2))) := by
  refine ⟨fun pins s σ H Q I h => ?_⟩
  have h : tLc wi g tt (te fun cls d _ H' => W cls d σ H') (own.map (·.2)) σ H Q := h
  rw [eval_ListComp]
  have hfree : ∀ y ∈ scope.names, y.2 = .free → ∃ c, X.env.cells.lookup y.1 = some c := fun y hy e => by
    rcases ok.free y hy e with k | k
    · exact I.ok.has _ (.inl k)
    · exact I.ok.has _ (.inr k)
  refine comprehension_at (use := none) rfl hs (closure_ok hfree) ok.kind (fun y hy e => by rw [ok.uniq y hy, e])
    (thn (hi.run pins s σ H _ I h) fun xv s1 hx => thn hx fun itv s2 h2 => ?_)
  obtain ⟨it, fp, tn, J, H2, e, I2, T, st2, f2, q⟩ := h2
  subst e
  refine wpAny_newObj_type (newEnv_comp ?_) (by show 0 ≤ sizeLine; decide)
  generalize hD : s2.heap.objs.size = D
  obtain ⟨Wt, ⟨m0, w0⟩, turn⟩ := q D (I2.hok.fresh (Nat.le_of_eq hD))
  generalize hs3 : ({ s2 with heap := s2.heap.push { cls := .type "list", data := .seq ([] : List Value).toArray } } : Shared) = s3
  have I3 : Inv X pins σ (upd H2 D (.lst [])) s3 := by
    rw [← hs3]
    refine I2.laid (t' := s2.toks) (fun b o e => Heap.get?_push_of_some _ e) (Nat.le_of_eq hD) ⟨Nat.zero_le _, [], 0, .nil, ?_⟩
    rw [← hD]
    exact Heap.get?_push_size _ rfl
  have h3 : s3.heap = s2.heap.push { cls := .type "list", data := .seq ([] : List Value).toArray } := by rw [← hs3]
  have f3 : ∀ b ∈ fp, FpOk X pins (upd H2 D (.lst [])) b ∧ b < s3.heap.objs.size := fun b hb => by
    obtain ⟨o, eo, _⟩ := T.obj _ _ st2 b hb
    have hlt : b < s2.heap.objs.size := Heap.lt_size eo
    refine ⟨⟨?_, (f2 b hb).2⟩, by rw [h3, Heap.size_push]; exact Nat.lt_succ_of_lt hlt⟩
    rw [upd_ne (by rw [← hD]; exact Nat.ne_of_lt hlt)]
    exact (f2 b hb).1
  have st3 : tn 0 s3.heap := T.keep _ _ _ st2 fun b _ o e => by rw [h3]; exact Heap.get?_push_of_some _ e
  have I4 := block_start I3 ok hN f3
  have pg := hg s3 (upd H2 D (.lst [])) s3.heap.objs.size (cellsFrom (s3.heap.objs.size + 1) scope.names (cloFrom X.env.cells scope.names [])) fp
  have pt := ht s3 (upd H2 D (.lst [])) s3.heap.objs.size (cellsFrom (s3.heap.objs.size + 1) scope.names (cloFrom X.env.cells scope.names [])) fp
  have pe := fun xe hz => he s3 (upd H2 D (.lst [])) s3.heap.objs.size (cellsFrom (s3.heap.objs.size + 1) scope.names (cloFrom X.env.cells scope.names [])) fp xe (fun cls d _ H' => W cls d σ H') hz
  show codeAny _ _ (.compStart (.ListComp elt [⟨tg, iter, ifs, 0⟩] scope pos) 0 (.ref it) (.ref D) (compEnvC scope (cellsFrom (s3.heap.objs.size + 1) scope.names (cloFrom X.env.cells scope.names [])) s3.heap.objs.size X.env))
    (compEnds (model X.prog X.w) X.A X.xe none (EP X pins σ Q) (.ref D) (compEnvC scope (cellsFrom (s3.heap.objs.size + 1) scope.names (cloFrom X.env.cells scope.names [])) s3.heap.objs.size X.env)) { s3 with heap := pushCells (s3.heap.push { cls := .type "dict", data := .dict #[] }) scope.names }
  generalize hce : compEnvC scope (cellsFrom (s3.heap.objs.size + 1) scope.names (cloFrom X.env.cells scope.names [])) s3.heap.objs.size X.env = ce at I4 pg pt pe ⊢
  have cL : ce.locals = s3.heap.objs.size := by subst hce; rfl
  have cF : ce.frame = X.env.frame := by subst hce; rfl
  generalize hH3 : upd H2 D (.lst []) = H3 at I3 I4 pg pt pe w0 f3
  generalize hs4 : ({ s3 with heap := pushCells (s3.heap.push { cls := .type "dict", data := .dict #[] }) scope.names } : Shared) = s4 at I4 ⊢
  have st4 : tn 0 s4.heap := T.keep _ _ _ st3 fun b _ o e => by rw [← hs4]; exact pushCells_keeps _ _ _ _ (Heap.get?_push_of_some _ e)
  have stat : ∀ {σ' : St} {H' : Hp} {s' : Shared}, Inv (X.blk s3 H3 scope ce fp) [] σ' H' s' → (∀ b ∈ fp, H' b = none) → ∀ b ∈ fp, FpOk (X.blk s3 H3 scope ce fp) [] H' b := fun {σ' H' s'} I' hn b hb =>
    ⟨hn b hb, (I'.ok.exf b hb).1, I'.ok.exfs b hb, .inl hb, fun x c e => (I'.ok.exf b hb).2 x c e, fun p hp => absurd (show p ∈ ([] : List (Addr × Obj)) ++ [] from hp) (by simp)⟩
  have home : ∀ {pins' : List (Addr × Obj)} {σ' : St} {H' : Hp} {s' : Shared}, Inv (X.blk s3 H3 scope ce fp) pins' σ' H' s' → Inv X pins σ H' s' ∧ FpOk X pins H' ce.locals ∧ ∃ m, s'.heap.Ns ce.locals m := fun {pins' σ' H' s'} I' => by
    refine ⟨I3.call' (ch := fp) I'.os I'.base I'.hok I'.bare fun b hb => ⟨(f3 b hb).1.2.2.2.1, (f3 b hb).1.2.1, (f3 b hb).1.2.2.2.2.1, (f3 b hb).1.2.2.2.2.2⟩, ?_, ?_⟩
    · have z : H' ce.locals = none := I'.free
      rw [cL] at z ⊢
      exact I3.fpOk (Nat.le_refl _) z
    · obtain ⟨m, hn, _⟩ := I'.loc
      exact ⟨m, hn⟩
  have pass : ∀ σ', PassesAt (L2.CX X.prog X.w) ((X.blk s3 H3 scope ce fp).wish (notedBy (model X.prog X.w) X.A ce (CompFails (model X.prog X.w) X.A X.xe ce))) σ' (fun cls d H' => (fun cls d (_ : St) H' => W cls d σ H') cls d σ' H') := fun σ' pins' H0 s0 e s' I0 c => by
    obtain ⟨J0, f, m, hn⟩ := home (Inv.unwish (X := X.blk s3 H3 scope ce fp) I0)
    refine comp_lets_out hstk hfrm tk cF J0 hn f (fun hm => ?_) (fun _ _ _ h => h) c
    obtain ⟨_, o, eo, _⟩ := I3.stack.mem hm
    rw [cL] at eo
    exact Nat.lt_irrefl _ (Heap.lt_size eo)
  have pe' := pe _ pass
  have loop : codeAny (model X.prog X.w) X.A (.compLoop (.ListComp elt [⟨tg, iter, ifs, 0⟩] scope pos) 0 (.ref it) (.ref D) ce) (compEnds (model X.prog X.w) X.A X.xe none (EP X pins σ Q) (.ref D) ce) s4 := by
    refine compLoop_any (fun n s' => ∃ i H', Inv (X.blk s3 H3 scope ce fp) [] (wipe σ (own.map (·.2))) H' s' ∧ tn i s'.heap ∧ (∀ b ∈ fp, H' b = none) ∧ Wt i n H') ?_ m0 ⟨0, H3, I4, st4, fun b hb => (f3 b hb).1.1, w0⟩
    rintro n s5 ⟨i, H5, I5, st5, n5, w5⟩
    rcases turn i n H5 w5 with ⟨stop, qq⟩ | ⟨go, Nx, hNx, step⟩
    · refine thnF (T.done (X.blk s3 H3 scope ce fp) rfl rfl rfl hc i [] s5 _ H5 (fun _ _ => False) I5 (stat I5 n5) st5 stop) fun r s6 ⟨hr, I6⟩ => ?_
      subst hr
      obtain ⟨I7, f, m, hn⟩ := home I6
      refine ⟨m, hn, fun h'' sb => ?_⟩
      obtain ⟨f0, f1, f2, f3, f4, f5⟩ := f
      exact ⟨.ref D, H5, I7.turned (t' := s6.toks) (fun b o hb e => (sb.2 b hb).trans e) f0 f1 f3 f4 f5, rfl, qq⟩
    · refine thnF (T.item (X.blk s3 H3 scope ce fp) rfl rfl rfl hc i [] s5 _ H5 (fun _ _ => False) I5 (stat I5 n5) st5 go) fun r s6 ⟨u, hr, h6⟩ => ?_
      subst hr
      refine thnF h6 fun _ s7 ⟨x, H7, I7, r7, y7, st7, n7⟩ => ?_
      have I7' := I7.pinned (stat I7 n7) (T.obj _ _ st7)
      refine thnF (pg.run _ s7 _ H7 x u _ I7' r7 (step x H7 y7)) fun _ s8 ⟨σ8, H8, I8, hw8, q8⟩ => ?_
      refine thnF (pt.run _ s8 σ8 H8 _ I8 q8) fun b s9 ⟨H9, I9, q9⟩ => ?_
      have fin : ∀ {s' : Shared} {H' : Hp}, Inv (X.blk s3 H3 scope ce fp) ([] ++ pinsAt fp s7.heap) σ8 H' s' → Nx H' → ∃ m, m < n ∧ ∃ i H', Inv (X.blk s3 H3 scope ce fp) [] (wipe σ (own.map (·.2))) H' s' ∧ tn i s'.heap ∧ (∀ b ∈ fp, H' b = none) ∧ Wt i m H' := fun {s' H'} I' nx => by
        obtain ⟨m', hm, w'⟩ := hNx H' nx
        have pin' : ∀ b ∈ fp, ∀ o, s7.heap.get? b = some o → s'.heap.get? b = some o ∧ H' b = none := fun b hb o e =>
          let z := I'.pin (b, o) (List.mem_append_right _ (List.mem_append_right _ (mem_pinsAt hb e)))
          ⟨z.1, z.2.1⟩
        have hl : (wipe σ (own.map (·.2))).length = σ8.length := by rw [← hw8, wipe_length]
        refine ⟨m', hm, i + 1, H', (I'.unpinned (pins := [])).weak hl (fun j v e => ?_), T.keep _ _ _ st7 fun b hb o e => (pin' b hb o e).1, fun b hb => ?_, w'⟩
        · rw [← hw8] at e
          exact (wipe_some e).1
        · obtain ⟨o, e, _⟩ := T.obj _ _ st7 b hb
          exact (pin' b hb o e).2
      cases b with
      | false =>
        simp only [Bool.false_eq_true, if_false] at q9 ⊢
        exact fin I9 q9
      | true =>
        simp only [if_true] at q9 ⊢
        refine thn (pe'.run _ s9 σ8 H9 _ (I9.wish _) q9) fun z s10 ⟨yv, H10, I10, r10, acc, hD10, hz10, nx⟩ => ?_
        exact app_ok (X := X.blk s3 H3 scope ce fp) (Inv.unwish (X := X.blk s3 H3 scope ce fp) I10) hD10 hz10 r10 fun s11 I11 => fin I11 nx
  exact codeAny_compStart_list loop (T.self X.A 0 _ _ _ st4 loop)
end
end L2

set_option maxRecDepth 100000
set_option maxHeartbeats 0
namespace Z
namespace K51
open PySem PySem.Spec PyProof.Rows L2
def top (i : Nat) : Stmt := PySem.Challenge.pw_meterhouse_k51_papers_texts.main.body.getD i (.Pass ⟨0, 0, 0, 0⟩)
def F_number_of : Fn := ⟨1, 3,
  .seq (.ite (.or (.cmp .lt (.bi .len (.cons (.var 0) (.nil))) (.con (.int 1))) (.cmp .gt (.bi .len (.cons (.var 0) (.nil))) (.con (.int 20)))) (.ret (.con .non)) (.skip)) (.seq (.for_ (.name 1) .seq (.cons (.var 0) .nil) (.ite (.cmp .nin (.var 1) (.glo "FIGURES")) (.ret (.con .non)) (.skip))) (.seq (.ite (.and (.cmp .eq (.idx (.var 0) (.con (.int 0))) (.con (.str "0"))) (.cmp .gt (.bi .len (.cons (.var 0) (.nil))) (.con (.int 1)))) (.ret (.con .non)) (.skip)) (.seq (.asg 2 (.bi .int (.cons (.var 0) (.nil)))) (.seq (.ite (.cmp .lt (.var 2) (.glo "WIDE")) (.ret (.var 2)) (.skip)) (.ret (.con .non))))))⟩
def F_shown_numbers : Fn := ⟨1, 2,
  .ret (.bm .join (.con (.str " ")) (.cons (.comp (.bi .str (.cons (.var 1) (.nil))) [1] (.name 1) .seq (.cons (.var 0) .nil) (.yes)) (.nil)))⟩
def F_show_paper : Fn := ⟨1, 1,
  .ret (.bm .join (.con (.str " / ")) (.cons (.lst (.cons (.bi .str (.cons (.idx (.var 0) (.con (.int 0))) (.nil))) (.cons (.call "shown_numbers" (.cons (.idx (.var 0) (.con (.int 1))) (.nil)) []) (.cons (.call "shown_numbers" (.cons (.idx (.var 0) (.con (.int 2))) (.nil)) []) (.nil))))) (.nil)))⟩
def F_read_number : Fn := ⟨1, 2,
  .seq (.asg 1 (.call "number_of" (.cons (.var 0) (.nil)) [])) (.seq (.ite (.cmp .isN (.var 1) (.con .non)) (.rai "NoPaper") (.skip)) (.ret (.var 1)))⟩
def F_read_numbers : Fn := ⟨1, 2,
  .seq (.ite (.cmp .eq (.var 0) (.con (.str ""))) (.ret (.lst (.nil))) (.skip)) (.ret (.cpx (.call "read_number" (.cons (.var 1) (.nil)) []) [1] (.name 1) .seq (.cons (.bm .split (.var 0) (.cons (.con (.str " ")) (.nil))) .nil) (.yes)))⟩
def F_read_paper : Fn := ⟨1, 5,
  .seq (.asg 1 (.bm .split (.var 0) (.cons (.con (.str " / ")) (.nil)))) (.seq (.ite (.cmp .ne (.bi .len (.cons (.var 1) (.nil))) (.con (.int 3))) (.rai "NoPaper") (.skip)) (.seq (.asg 2 (.call "read_number" (.cons (.idx (.var 1) (.con (.int 0))) (.nil)) [])) (.seq (.asg 3 (.call "read_numbers" (.cons (.idx (.var 1) (.con (.int 1))) (.nil)) [])) (.seq (.asg 4 (.call "read_numbers" (.cons (.idx (.var 1) (.con (.int 2))) (.nil)) [])) (.seq (.ite (.cmp .gt (.bi .len (.cons (.var 4) (.nil))) (.con (.int 60))) (.rai "NoPaper") (.skip)) (.ret (.tup (.cons (.var 2) (.cons (.var 3) (.cons (.var 4) (.nil)))))))))))⟩
def F_l_cell_at : Fn := ⟨2, 2,
  .seq (.ite (.cmp .lt (.var 1) (.bi .len (.cons (.var 0) (.nil)))) (.ret (.idx (.var 0) (.var 1))) (.skip)) (.ret (.con (.int 0)))⟩
def F_l_whole : Fn := ⟨1, 1,
  .ret (.and (.isi (.var 0) .int) (.not (.isi (.var 0) .bool)))⟩
def F_l_number_of : Fn := ⟨1, 3,
  .seq (.ite (.or (.cmp .eq (.var 0) (.con (.str ""))) (.or (.cmp .gt (.bi .len (.cons (.var 0) (.nil))) (.con (.int 20))) (.and (.cmp .gt (.bi .len (.cons (.var 0) (.nil))) (.con (.int 1))) (.cmp .eq (.idx (.var 0) (.con (.int 0))) (.con (.str "0")))))) (.ret (.neg (.con (.int 1)))) (.skip)) (.seq (.for_ (.name 1) .seq (.cons (.var 0) .nil) (.ite (.cmp .nin (.var 1) (.con (.str "0123456789"))) (.ret (.neg (.con (.int 1)))) (.skip))) (.seq (.asg 2 (.bi .int (.cons (.var 0) (.nil)))) (.seq (.ite (.cmp .lt (.var 2) (.bin .pow (.con (.int 2)) (.con (.int 64)))) (.ret (.var 2)) (.skip)) (.ret (.neg (.con (.int 1)))))))⟩
def F_l_text : Fn := ⟨1, 4,
  .seq (.asg 1 (.lst (.cons (.bi .str (.cons (.idx (.var 0) (.con (.int 0))) (.nil))) (.nil)))) (.seq (.for_ (.name 2) .seq (.cons (.slc (.var 0) (.some (.con (.int 1))) .none) .nil) (.drop (.bm .append (.var 1) (.cons (.bm .join (.con (.str " ")) (.cons (.comp (.bi .str (.cons (.var 3) (.nil))) [3] (.name 3) .seq (.cons (.var 2) .nil) (.yes)) (.nil))) (.nil))))) (.ret (.bm .join (.con (.str " / ")) (.cons (.var 1) (.nil)))))⟩
def F_l_numbers_of : Fn := ⟨1, 3,
  .seq (.asg 1 (.lst (.nil))) (.seq (.ite (.cmp .eq (.var 0) (.con (.str ""))) (.ret (.var 1)) (.skip)) (.seq (.for_ (.name 2) .seq (.cons (.bm .split (.var 0) (.cons (.con (.str " ")) (.nil))) .nil) (.drop (.bm .append (.var 1) (.cons (.call "_law_number_of" (.cons (.var 2) (.nil)) []) (.nil))))) (.ret (.var 1))))⟩
def F_l_paper_of : Fn := ⟨1, 5,
  .seq (.asg 1 (.bm .split (.var 0) (.cons (.con (.str " / ")) (.nil)))) (.seq (.ite (.cmp .ne (.bi .len (.cons (.var 1) (.nil))) (.con (.int 3))) (.ret (.con .non)) (.skip)) (.seq (.asg 2 (.call "_law_number_of" (.cons (.idx (.var 1) (.con (.int 0))) (.nil)) [])) (.seq (.asg 3 (.call "_law_numbers_of" (.cons (.idx (.var 1) (.con (.int 1))) (.nil)) [])) (.seq (.asg 4 (.call "_law_numbers_of" (.cons (.idx (.var 1) (.con (.int 2))) (.nil)) [])) (.seq (.ite (.or (.cmp .lt (.var 2) (.con (.int 0))) (.or (.cmp .lt (.bi .minD (.cons (.var 3) (.cons (.con (.int 0)) (.nil)))) (.con (.int 0))) (.or (.cmp .lt (.bi .minD (.cons (.var 4) (.cons (.con (.int 0)) (.nil)))) (.con (.int 0))) (.cmp .gt (.bi .len (.cons (.var 4) (.nil))) (.con (.int 60)))))) (.ret (.con .non)) (.skip)) (.ret (.tup (.cons (.var 2) (.cons (.var 3) (.cons (.var 4) (.nil)))))))))))⟩
def F_l_is : Fn := ⟨2, 4,
  .seq (.ite (.or (.not (.tru (.isi (.var 0) .tuple))) (.or (.cmp .ne (.bi .len (.cons (.var 0) (.nil))) (.con (.int 3))) (.not (.tru (.call "_law_whole" (.cons (.idx (.var 0) (.con (.int 0))) (.nil)) []))))) (.ret (.con (.bl false))) (.skip)) (.seq (.for_ (.name 2) .seq (.cons (.slc (.var 0) (.some (.con (.int 1))) .none) .nil) (.seq (.ite (.not (.tru (.isi (.var 2) .list))) (.ret (.con (.bl false))) (.skip)) (.for_ (.name 3) .seq (.cons (.var 2) .nil) (.ite (.not (.tru (.call "_law_whole" (.cons (.var 3) (.nil)) []))) (.ret (.con (.bl false))) (.skip))))) (.ret (.cmp .eq (.var 0) (.var 1))))⟩
def F_l_refused_by_any : Fn := ⟨1, 3,
  .seq (.asg 1 (.lst (.nil))) (.seq (.try_ (.drop (.call "read_paper" (.cons (.var 0) (.nil)) [])) "HouseError" (some 2) (.seq (.asg 1 (.lst (.cons (.isxB 2 "ValueError") (.cons (.isx 2 "NoPaper") (.cons (.isx 2 "NoClash") (.cons (.isx 2 "NoRow") (.nil))))))) (.seq (.asg 1 (.bin .add (.var 1) (.lst (.cons (.isx 2 "NoCode") (.cons (.isx 2 "NoSlot") (.cons (.isx 2 "Taken") (.cons (.isx 2 "TooMuch") (.nil)))))))) (.seq (.asg 1 (.bin .add (.var 1) (.lst (.cons (.isx 2 "NoNumber") (.cons (.isx 2 "NoAccount") (.cons (.isx 2 "NoLimit") (.nil))))))) (.asg 1 (.bin .add (.var 1) (.lst (.cons (.isx 2 "PoorPurse") (.cons (.isx 2 "PoorCoin") (.nil)))))))))) (.ret (.cmp .eq (.var 1) (.bin .add (.lst (.cons (.con (.bl true)) (.cons (.con (.bl true)) (.nil)))) (.bin .mul (.lst (.cons (.con (.bl false)) (.nil))) (.con (.int 11)))))))⟩
def F_l_read : Fn := ⟨1, 4,
  .seq (.asg 1 (.con .non)) (.seq (.asg 2 (.con (.bl false))) (.seq (.try_ (.asg 1 (.call "read_paper" (.cons (.var 0) (.nil)) [])) "NoPaper" none (.asg 2 (.con (.bl true)))) (.seq (.asg 3 (.call "_law_paper_of" (.cons (.var 0) (.nil)) [])) (.seq (.ite (.cmp .isN (.var 3) (.con .non)) (.ret (.and (.var 2) (.call "_law_refused_by_any" (.cons (.var 0) (.nil)) []))) (.skip)) (.ret (.and (.not (.var 2)) (.call "_law_is" (.cons (.var 1) (.cons (.var 3) (.nil))) [])))))))⟩
def F_l_spoilt : Fn := ⟨4, 6,
  .seq (.asg 4 (.con (.str " /0917a+-_.,;:!#&'()*<=>?\x40[]^~ABCxyz{|}$ //  "))) (.seq (.asg 5 (.idx (.var 4) (.bin .mod (.var 3) (.bi .len (.cons (.var 4) (.nil)))))) (.seq (.asg 2 (.bin .mod (.var 2) (.bin .add (.bi .len (.cons (.var 0) (.nil))) (.con (.int 1))))) (.seq (.ite (.cmp .eq (.var 1) (.con (.int 0))) (.ret (.bin .add (.bin .add (.slc (.var 0) .none (.some (.var 2))) (.var 5)) (.slc (.var 0) (.some (.var 2)) .none))) (.skip)) (.seq (.ite (.cmp .eq (.var 1) (.con (.int 1))) (.ret (.bin .add (.slc (.var 0) .none (.some (.var 2))) (.slc (.var 0) (.some (.bin .add (.var 2) (.con (.int 1)))) .none))) (.skip)) (.seq (.ite (.cmp .eq (.var 1) (.con (.int 2))) (.ret (.bin .add (.bin .add (.slc (.var 0) .none (.some (.var 2))) (.var 5)) (.slc (.var 0) (.some (.bin .add (.var 2) (.con (.int 1)))) .none))) (.skip)) (.ret (.bin .add (.bin .add (.slc (.var 0) .none (.some (.var 2))) (.con (.str " / "))) (.slc (.var 0) (.some (.var 2)) .none))))))))⟩
def F_l_number : Fn := ⟨1, 1,
  .seq (.ite (.cmp .eq (.bin .mod (.var 0) (.con (.int 5))) (.con (.int 1))) (.ret (.bin .mod (.bin .fdiv (.var 0) (.con (.int 5))) (.con (.int 12)))) (.skip)) (.ret (.bin .mod (.bin .fdiv (.var 0) (.con (.int 5))) (.bin .pow (.con (.int 2)) (.con (.int 64)))))⟩
def F_law : Fn := ⟨1, 11,
  .seq (.asg 1 (.comp (.call "_law_number" (.cons (.var 9) (.nil)) []) [9] (.name 9) .seq (.cons (.slc (.var 0) (.some (.con (.int 3))) (.some (.con (.int 93)))) .nil) (.yes))) (.seq (.asg 2 (.bi .min2 (.cons (.bin .mod (.call "_law_cell_at" (.cons (.var 0) (.cons (.con (.int 0)) (.nil))) []) (.bin .add (.bi .len (.cons (.var 1) (.nil))) (.con (.int 1)))) (.cons (.con (.int 59)) (.nil))))) (.seq (.asg 3 (.tup (.cons (.call "_law_number" (.cons (.call "_law_cell_at" (.cons (.var 0) (.cons (.con (.int 1)) (.nil))) []) (.nil)) []) (.cons (.slc (.var 1) (.some (.var 2)) .none) (.cons (.slc (.var 1) .none (.some (.var 2))) (.nil)))))) (.seq (.asg 4 (.tup (.cons (.idx (.var 3) (.con (.int 0))) (.cons (.bi .list (.cons (.idx (.var 3) (.con (.int 1))) (.nil))) (.cons (.bi .list (.cons (.idx (.var 3) (.con (.int 2))) (.nil))) (.nil)))))) (.seq (.asg 5 (.call "show_paper" (.cons (.var 4) (.nil)) [])) (.seq (.ite (.or (.cmp .ne (.var 4) (.var 3)) (.or (.not (.tru (.isi (.var 5) .str))) (.or (.cmp .ne (.var 5) (.call "_law_text" (.cons (.var 3) (.nil)) [])) (.not (.tru (.call "_law_read" (.cons (.var 5) (.nil)) [])))))) (.ret (.con (.bl false))) (.skip)) (.seq (.asg 6 (.bin .mod (.call "_law_cell_at" (.cons (.var 0) (.cons (.con (.int 2)) (.nil))) []) (.bin .pow (.con (.int 10)) (.con (.int 9))))) (.seq (.for_ (.name 7) .range1 (.cons (.con (.int 4)) (.nil)) (.ite (.not (.tru (.call "_law_read" (.cons (.call "_law_spoilt" (.cons (.var 5) (.cons (.var 7) (.cons (.bin .fdiv (.var 6) (.bin .add (.var 7) (.con (.int 1)))) (.cons (.bin .add (.bin .fdiv (.var 6) (.con (.int 7))) (.var 7)) (.nil))))) []) (.nil)) []))) (.ret (.con (.bl false))) (.skip))) (.seq (.asg 8 (.idx (.lst (.cons (.con (.int 60)) (.cons (.con (.int 61)) (.nil)))) (.bin .mod (.var 6) (.con (.int 2))))) (.ret (.call "_law_read" (.cons (.call "_law_text" (.cons (.tup (.cons (.idx (.var 3) (.con (.int 0))) (.cons (.idx (.var 3) (.con (.int 1))) (.cons (.comp (.bin .fdiv (.var 6) (.bin .add (.var 10) (.con (.int 1)))) [10] (.name 10) .range1 (.cons (.var 8) (.nil)) (.yes)) (.nil))))) (.nil)) []) (.nil)) []))))))))))⟩
def PR : Prog where
  fn := fun x => match x with | "number_of" => some F_number_of | "shown_numbers" => some F_shown_numbers | "show_paper" => some F_show_paper | "read_number" => some F_read_number | "read_numbers" => some F_read_numbers | "read_paper" => some F_read_paper | "_law_cell_at" => some F_l_cell_at | "_law_whole" => some F_l_whole | "_law_number_of" => some F_l_number_of | "_law_text" => some F_l_text | "_law_numbers_of" => some F_l_numbers_of | "_law_paper_of" => some F_l_paper_of | "_law_is" => some F_l_is | "_law_refused_by_any" => some F_l_refused_by_any | "_law_read" => some F_l_read | "_law_spoilt" => some F_l_spoilt | "_law_number" => some F_l_number | "law" => some F_law | _ => none
  glob := fun x => match x with | "FIGURES" => some (.str "0123456789") | "WIDE" => some (.int 18446744073709551616) | _ => none
  mt := fun x y => none
  fld := fun x y => false
  exm := fun x y => match x, y with | "NoPaper", "HouseError" => some true | "NoPaper", "NoPaper" => some true | _, _ => none
  lf := 1000000
  exs := fun x y => match x, y with | "NoPaper", "NoAccount" => some false | "NoPaper", "NoClash" => some false | "NoPaper", "NoCode" => some false | "NoPaper", "NoLimit" => some false | "NoPaper", "NoNumber" => some false | "NoPaper", "NoPaper" => some true | "NoPaper", "NoRow" => some false | "NoPaper", "NoSlot" => some false | "NoPaper", "PoorCoin" => some false | "NoPaper", "PoorPurse" => some false | "NoPaper", "Taken" => some false | "NoPaper", "TooMuch" => some false | _, _ => none
  exb := fun x y => match x, y with | "NoPaper", "ValueError" => some true | _, _ => none
theorem fn_number_of : PR.fn "number_of" = some F_number_of := by first | rfl | simp [PR]
theorem fn_shown_numbers : PR.fn "shown_numbers" = some F_shown_numbers := by first | rfl | simp [PR]
theorem fn_show_paper : PR.fn "show_paper" = some F_show_paper := by first | rfl | simp [PR]
theorem fn_read_number : PR.fn "read_number" = some F_read_number := by first | rfl | simp [PR]
theorem fn_read_numbers : PR.fn "read_numbers" = some F_read_numbers := by first | rfl | simp [PR]
theorem fn_read_paper : PR.fn "read_paper" = some F_read_paper := by first | rfl | simp [PR]
theorem fn_l_cell_at : PR.fn "_law_cell_at" = some F_l_cell_at := by first | rfl | simp [PR]
theorem fn_l_whole : PR.fn "_law_whole" = some F_l_whole := by first | rfl | simp [PR]
theorem fn_l_number_of : PR.fn "_law_number_of" = some F_l_number_of := by first | rfl | simp [PR]
theorem fn_l_text : PR.fn "_law_text" = some F_l_text := by first | rfl | simp [PR]
theorem fn_l_numbers_of : PR.fn "_law_numbers_of" = some F_l_numbers_of := by first | rfl | simp [PR]
theorem fn_l_paper_of : PR.fn "_law_paper_of" = some F_l_paper_of := by first | rfl | simp [PR]
theorem fn_l_is : PR.fn "_law_is" = some F_l_is := by first | rfl | simp [PR]
theorem fn_l_refused_by_any : PR.fn "_law_refused_by_any" = some F_l_refused_by_any := by first | rfl | simp [PR]
theorem fn_l_read : PR.fn "_law_read" = some F_l_read := by first | rfl | simp [PR]
theorem fn_l_spoilt : PR.fn "_law_spoilt" = some F_l_spoilt := by first | rfl | simp [PR]
theorem fn_l_number : PR.fn "_law_number" = some F_l_number := by first | rfl | simp [PR]
theorem fn_law : PR.fn "law" = some F_law := by first | rfl | simp [PR]
@[simp] theorem gl_FIGURES : PR.glob "FIGURES" = some (.str "0123456789") := by first | rfl | simp [PR]
@[simp] theorem gl_WIDE : PR.glob "WIDE" = some (.int 18446744073709551616) := by first | rfl | simp [PR]
@[simp] theorem es_NoPaper_NoAccount : PR.exs "NoPaper" "NoAccount" = some false := by first | rfl | simp [PR]
@[simp] theorem es_NoPaper_NoClash : PR.exs "NoPaper" "NoClash" = some false := by first | rfl | simp [PR]
@[simp] theorem es_NoPaper_NoCode : PR.exs "NoPaper" "NoCode" = some false := by first | rfl | simp [PR]
@[simp] theorem es_NoPaper_NoLimit : PR.exs "NoPaper" "NoLimit" = some false := by first | rfl | simp [PR]
@[simp] theorem es_NoPaper_NoNumber : PR.exs "NoPaper" "NoNumber" = some false := by first | rfl | simp [PR]
@[simp] theorem es_NoPaper_NoPaper : PR.exs "NoPaper" "NoPaper" = some true := by first | rfl | simp [PR]
@[simp] theorem es_NoPaper_NoRow : PR.exs "NoPaper" "NoRow" = some false := by first | rfl | simp [PR]
@[simp] theorem es_NoPaper_NoSlot : PR.exs "NoPaper" "NoSlot" = some false := by first | rfl | simp [PR]
@[simp] theorem es_NoPaper_PoorCoin : PR.exs "NoPaper" "PoorCoin" = some false := by first | rfl | simp [PR]
@[simp] theorem es_NoPaper_PoorPurse : PR.exs "NoPaper" "PoorPurse" = some false := by first | rfl | simp [PR]
@[simp] theorem es_NoPaper_Taken : PR.exs "NoPaper" "Taken" = some false := by first | rfl | simp [PR]
@[simp] theorem es_NoPaper_TooMuch : PR.exs "NoPaper" "TooMuch" = some false := by first | rfl | simp [PR]
@[simp] theorem eb_NoPaper_ValueError : PR.exb "NoPaper" "ValueError" = some true := by first | rfl | simp [PR]
@[simp] theorem em_NoPaper_HouseError : PR.exm "NoPaper" "HouseError" = some true := by first | rfl | simp [PR]
@[simp] theorem em_NoPaper_NoPaper : PR.exm "NoPaper" "NoPaper" = some true := by first | rfl | simp [PR]
def gv (K : PySem.W.Frag) (x : String) : V := match x with | "FIGURES" => (.str "0123456789") | "WIDE" => (.int 18446744073709551616) | _ => .non
abbrev st_number_of : Stmt := top 17
theorem sc_number_of : FnScope ["text", "sign", "number"] ["text"] (defScope st_number_of) := ⟨rfl, rfl, rfl, by decide +kernel, rfl, by decide +kernel, by decide +kernel⟩
def df_number_of : He.DefD := ⟨("number_of", none), "number_of", "number_of", defArgs st_number_of, defBody st_number_of, defScope st_number_of, [], []⟩
abbrev FN_number_of (K : PySem.W.Frag) (fd : FuncData) : Prop := FunD K "number_of" "number_of" (defArgs st_number_of) (defBody st_number_of) (defScope st_number_of) [] [] (He.fAd K ("number_of", none)) fd
abbrev st_shown_numbers : Stmt := top 19
theorem sc_shown_numbers : FnScope ["numbers", "number"] ["numbers"] (defScope st_shown_numbers) := ⟨rfl, rfl, rfl, by decide +kernel, rfl, by decide +kernel, by decide +kernel⟩
def df_shown_numbers : He.DefD := ⟨("shown_numbers", none), "shown_numbers", "shown_numbers", defArgs st_shown_numbers, defBody st_shown_numbers, defScope st_shown_numbers, [], []⟩
abbrev FN_shown_numbers (K : PySem.W.Frag) (fd : FuncData) : Prop := FunD K "shown_numbers" "shown_numbers" (defArgs st_shown_numbers) (defBody st_shown_numbers) (defScope st_shown_numbers) [] [] (He.fAd K ("shown_numbers", none)) fd
abbrev st_show_paper : Stmt := top 20
theorem sc_show_paper : FnScope ["paper"] ["paper"] (defScope st_show_paper) := ⟨rfl, rfl, rfl, by decide +kernel, rfl, by decide +kernel, by decide +kernel⟩
def df_show_paper : He.DefD := ⟨("show_paper", none), "show_paper", "show_paper", defArgs st_show_paper, defBody st_show_paper, defScope st_show_paper, [], []⟩
abbrev FN_show_paper (K : PySem.W.Frag) (fd : FuncData) : Prop := FunD K "show_paper" "show_paper" (defArgs st_show_paper) (defBody st_show_paper) (defScope st_show_paper) [] [] (He.fAd K ("show_paper", none)) fd
abbrev st_read_number : Stmt := top 21
theorem sc_read_number : FnScope ["word", "found"] ["word"] (defScope st_read_number) := ⟨rfl, rfl, rfl, by decide +kernel, rfl, by decide +kernel, by decide +kernel⟩
def df_read_number : He.DefD := ⟨("read_number", none), "read_number", "read_number", defArgs st_read_number, defBody st_read_number, defScope st_read_number, [], []⟩
abbrev FN_read_number (K : PySem.W.Frag) (fd : FuncData) : Prop := FunD K "read_number" "read_number" (defArgs st_read_number) (defBody st_read_number) (defScope st_read_number) [] [] (He.fAd K ("read_number", none)) fd
abbrev st_read_numbers : Stmt := top 22
theorem sc_read_numbers : FnScope ["text", "word"] ["text"] (defScope st_read_numbers) := ⟨rfl, rfl, rfl, by decide +kernel, rfl, by decide +kernel, by decide +kernel⟩
def df_read_numbers : He.DefD := ⟨("read_numbers", none), "read_numbers", "read_numbers", defArgs st_read_numbers, defBody st_read_numbers, defScope st_read_numbers, [], []⟩
abbrev FN_read_numbers (K : PySem.W.Frag) (fd : FuncData) : Prop := FunD K "read_numbers" "read_numbers" (defArgs st_read_numbers) (defBody st_read_numbers) (defScope st_read_numbers) [] [] (He.fAd K ("read_numbers", none)) fd
abbrev st_read_paper : Stmt := top 23
theorem sc_read_paper : FnScope ["text", "parts", "place", "numbers", "way"] ["text"] (defScope st_read_paper) := ⟨rfl, rfl, rfl, by decide +kernel, rfl, by decide +kernel, by decide +kernel⟩
def df_read_paper : He.DefD := ⟨("read_paper", none), "read_paper", "read_paper", defArgs st_read_paper, defBody st_read_paper, defScope st_read_paper, [], []⟩
abbrev FN_read_paper (K : PySem.W.Frag) (fd : FuncData) : Prop := FunD K "read_paper" "read_paper" (defArgs st_read_paper) (defBody st_read_paper) (defScope st_read_paper) [] [] (He.fAd K ("read_paper", none)) fd
abbrev st_l_cell_at : Stmt := top 25
theorem sc_l_cell_at : FnScope ["_law_script", "_law_k"] ["_law_script", "_law_k"] (defScope st_l_cell_at) := ⟨rfl, rfl, rfl, by decide +kernel, rfl, by decide +kernel, by decide +kernel⟩
def df_l_cell_at : He.DefD := ⟨("_law_cell_at", none), "_law_cell_at", "_law_cell_at", defArgs st_l_cell_at, defBody st_l_cell_at, defScope st_l_cell_at, [], []⟩
abbrev FN_l_cell_at (K : PySem.W.Frag) (fd : FuncData) : Prop := FunD K "_law_cell_at" "_law_cell_at" (defArgs st_l_cell_at) (defBody st_l_cell_at) (defScope st_l_cell_at) [] [] (He.fAd K ("_law_cell_at", none)) fd
abbrev st_l_whole : Stmt := top 26
theorem sc_l_whole : FnScope ["_law_found"] ["_law_found"] (defScope st_l_whole) := ⟨rfl, rfl, rfl, by decide +kernel, rfl, by decide +kernel, by decide +kernel⟩
def df_l_whole : He.DefD := ⟨("_law_whole", none), "_law_whole", "_law_whole", defArgs st_l_whole, defBody st_l_whole, defScope st_l_whole, [], []⟩
abbrev FN_l_whole (K : PySem.W.Frag) (fd : FuncData) : Prop := FunD K "_law_whole" "_law_whole" (defArgs st_l_whole) (defBody st_l_whole) (defScope st_l_whole) [] [] (He.fAd K ("_law_whole", none)) fd
abbrev st_l_number_of : Stmt := top 27
theorem sc_l_number_of : FnScope ["_law_word", "_law_sign", "_law_number_here"] ["_law_word"] (defScope st_l_number_of) := ⟨rfl, rfl, rfl, by decide +kernel, rfl, by decide +kernel, by decide +kernel⟩
def df_l_number_of : He.DefD := ⟨("_law_number_of", none), "_law_number_of", "_law_number_of", defArgs st_l_number_of, defBody st_l_number_of, defScope st_l_number_of, [], []⟩
abbrev FN_l_number_of (K : PySem.W.Frag) (fd : FuncData) : Prop := FunD K "_law_number_of" "_law_number_of" (defArgs st_l_number_of) (defBody st_l_number_of) (defScope st_l_number_of) [] [] (He.fAd K ("_law_number_of", none)) fd
abbrev st_l_text : Stmt := top 28
theorem sc_l_text : FnScope ["_law_paper", "_law_parts", "_law_numbers", "_law_number_here"] ["_law_paper"] (defScope st_l_text) := ⟨rfl, rfl, rfl, by decide +kernel, rfl, by decide +kernel, by decide +kernel⟩
def df_l_text : He.DefD := ⟨("_law_text", none), "_law_text", "_law_text", defArgs st_l_text, defBody st_l_text, defScope st_l_text, [], []⟩
abbrev FN_l_text (K : PySem.W.Frag) (fd : FuncData) : Prop := FunD K "_law_text" "_law_text" (defArgs st_l_text) (defBody st_l_text) (defScope st_l_text) [] [] (He.fAd K ("_law_text", none)) fd
abbrev st_l_numbers_of : Stmt := top 29
theorem sc_l_numbers_of : FnScope ["_law_part", "_law_found", "_law_word"] ["_law_part"] (defScope st_l_numbers_of) := ⟨rfl, rfl, rfl, by decide +kernel, rfl, by decide +kernel, by decide +kernel⟩
def df_l_numbers_of : He.DefD := ⟨("_law_numbers_of", none), "_law_numbers_of", "_law_numbers_of", defArgs st_l_numbers_of, defBody st_l_numbers_of, defScope st_l_numbers_of, [], []⟩
abbrev FN_l_numbers_of (K : PySem.W.Frag) (fd : FuncData) : Prop := FunD K "_law_numbers_of" "_law_numbers_of" (defArgs st_l_numbers_of) (defBody st_l_numbers_of) (defScope st_l_numbers_of) [] [] (He.fAd K ("_law_numbers_of", none)) fd
abbrev st_l_paper_of : Stmt := top 30
theorem sc_l_paper_of : FnScope ["_law_text_here", "_law_parts", "_law_place", "_law_numbers", "_law_way"] ["_law_text_here"] (defScope st_l_paper_of) := ⟨rfl, rfl, rfl, by decide +kernel, rfl, by decide +kernel, by decide +kernel⟩
def df_l_paper_of : He.DefD := ⟨("_law_paper_of", none), "_law_paper_of", "_law_paper_of", defArgs st_l_paper_of, defBody st_l_paper_of, defScope st_l_paper_of, [], []⟩
abbrev FN_l_paper_of (K : PySem.W.Frag) (fd : FuncData) : Prop := FunD K "_law_paper_of" "_law_paper_of" (defArgs st_l_paper_of) (defBody st_l_paper_of) (defScope st_l_paper_of) [] [] (He.fAd K ("_law_paper_of", none)) fd
abbrev st_l_is : Stmt := top 31
theorem sc_l_is : FnScope ["_law_found", "_law_due", "_law_part", "_law_number_here"] ["_law_found", "_law_due"] (defScope st_l_is) := ⟨rfl, rfl, rfl, by decide +kernel, rfl, by decide +kernel, by decide +kernel⟩
def df_l_is : He.DefD := ⟨("_law_is", none), "_law_is", "_law_is", defArgs st_l_is, defBody st_l_is, defScope st_l_is, [], []⟩
abbrev FN_l_is (K : PySem.W.Frag) (fd : FuncData) : Prop := FunD K "_law_is" "_law_is" (defArgs st_l_is) (defBody st_l_is) (defScope st_l_is) [] [] (He.fAd K ("_law_is", none)) fd
abbrev st_l_refused_by_any : Stmt := top 32
theorem sc_l_refused_by_any : FnScope ["_law_text_here", "_law_kinds", "e"] ["_law_text_here"] (defScope st_l_refused_by_any) := ⟨rfl, rfl, rfl, by decide +kernel, rfl, by decide +kernel, by decide +kernel⟩
def df_l_refused_by_any : He.DefD := ⟨("_law_refused_by_any", none), "_law_refused_by_any", "_law_refused_by_any", defArgs st_l_refused_by_any, defBody st_l_refused_by_any, defScope st_l_refused_by_any, [], []⟩
abbrev FN_l_refused_by_any (K : PySem.W.Frag) (fd : FuncData) : Prop := FunD K "_law_refused_by_any" "_law_refused_by_any" (defArgs st_l_refused_by_any) (defBody st_l_refused_by_any) (defScope st_l_refused_by_any) [] [] (He.fAd K ("_law_refused_by_any", none)) fd
abbrev st_l_read : Stmt := top 33
theorem sc_l_read : FnScope ["_law_text_here", "_law_found", "_law_refused", "_law_due"] ["_law_text_here"] (defScope st_l_read) := ⟨rfl, rfl, rfl, by decide +kernel, rfl, by decide +kernel, by decide +kernel⟩
def df_l_read : He.DefD := ⟨("_law_read", none), "_law_read", "_law_read", defArgs st_l_read, defBody st_l_read, defScope st_l_read, [], []⟩
abbrev FN_l_read (K : PySem.W.Frag) (fd : FuncData) : Prop := FunD K "_law_read" "_law_read" (defArgs st_l_read) (defBody st_l_read) (defScope st_l_read) [] [] (He.fAd K ("_law_read", none)) fd
abbrev st_l_spoilt : Stmt := top 34
theorem sc_l_spoilt : FnScope ["_law_text_here", "_law_kind", "_law_at", "_law_cell", "_law_signs", "_law_sign"] ["_law_text_here", "_law_kind", "_law_at", "_law_cell"] (defScope st_l_spoilt) := ⟨rfl, rfl, rfl, by decide +kernel, rfl, by decide +kernel, by decide +kernel⟩
def df_l_spoilt : He.DefD := ⟨("_law_spoilt", none), "_law_spoilt", "_law_spoilt", defArgs st_l_spoilt, defBody st_l_spoilt, defScope st_l_spoilt, [], []⟩
abbrev FN_l_spoilt (K : PySem.W.Frag) (fd : FuncData) : Prop := FunD K "_law_spoilt" "_law_spoilt" (defArgs st_l_spoilt) (defBody st_l_spoilt) (defScope st_l_spoilt) [] [] (He.fAd K ("_law_spoilt", none)) fd
abbrev st_l_number : Stmt := top 35
theorem sc_l_number : FnScope ["_law_cell"] ["_law_cell"] (defScope st_l_number) := ⟨rfl, rfl, rfl, by decide +kernel, rfl, by decide +kernel, by decide +kernel⟩
def df_l_number : He.DefD := ⟨("_law_number", none), "_law_number", "_law_number", defArgs st_l_number, defBody st_l_number, defScope st_l_number, [], []⟩
abbrev FN_l_number (K : PySem.W.Frag) (fd : FuncData) : Prop := FunD K "_law_number" "_law_number" (defArgs st_l_number) (defBody st_l_number) (defScope st_l_number) [] [] (He.fAd K ("_law_number", none)) fd
abbrev st_law : Stmt := top 36
theorem sc_law : FnScope ["_law_script", "_law_cells", "_law_cut", "_law_paper", "_law_handed", "_law_text_here", "_law_spot", "_law_kind", "_law_many", "_law_cell", "_law_k"] ["_law_script"] (defScope st_law) := ⟨rfl, rfl, rfl, by decide +kernel, rfl, by decide +kernel, by decide +kernel⟩
def df_law : He.DefD := ⟨("law", none), "law", "law", defArgs st_law, defBody st_law, defScope st_law, [], []⟩
abbrev FN_law (K : PySem.W.Frag) (fd : FuncData) : Prop := FunD K "law" "law" (defArgs st_law) (defBody st_law) (defScope st_law) [] [] (He.fAd K ("law", none)) fd
def dfs : List He.DefD := [df_number_of, df_shown_numbers, df_show_paper, df_read_number, df_read_numbers, df_read_paper, df_l_cell_at, df_l_whole, df_l_number_of, df_l_text, df_l_numbers_of, df_l_paper_of, df_l_is, df_l_refused_by_any, df_l_read, df_l_spoilt, df_l_number, df_law]
def fas : List He.Fa := [.free "ValueError", .free "bool", .free "int", .free "isinstance", .free "len", .free "list", .free "min", .free "range", .free "str", .free "tuple", .glo "number_of", .glo "shown_numbers", .glo "show_paper", .glo "read_number", .glo "read_numbers", .glo "read_paper", .glo "_law_cell_at", .glo "_law_whole", .glo "_law_number_of", .glo "_law_text", .glo "_law_numbers_of", .glo "_law_paper_of", .glo "_law_is", .glo "_law_refused_by_any", .glo "_law_read", .glo "_law_spoilt", .glo "_law_number", .glo "law", .glo "HouseError", .glo "NoAccount", .glo "NoClash", .glo "NoCode", .glo "NoLimit", .glo "NoNumber", .glo "NoPaper", .glo "NoRow", .glo "NoSlot", .glo "PoorCoin", .glo "PoorPurse", .glo "Taken", .glo "TooMuch", .str "FIGURES" "0123456789", .int "WIDE" 18446744073709551616, .exc "NoPaper"]
def exb (K : PySem.W.Frag) : Bool := decide (PySem.W.exmOne K (.ref (ca K "NoPaper")) (.ref (ca K "HouseError")) = some true) && decide (PySem.W.exmOne K (.ref (ca K "NoPaper")) (.ref (ca K "NoPaper")) = some true) && excB K "NoPaper" && decide (PySem.W.kitOne K (.ref (ca K "NoPaper")) (.ref (ca K "NoAccount")) = some false) && decide (PySem.W.kitOne K (.ref (ca K "NoPaper")) (.ref (ca K "NoClash")) = some false) && decide (PySem.W.kitOne K (.ref (ca K "NoPaper")) (.ref (ca K "NoCode")) = some false) && decide (PySem.W.kitOne K (.ref (ca K "NoPaper")) (.ref (ca K "NoLimit")) = some false) && decide (PySem.W.kitOne K (.ref (ca K "NoPaper")) (.ref (ca K "NoNumber")) = some false) && decide (PySem.W.kitOne K (.ref (ca K "NoPaper")) (.ref (ca K "NoPaper")) = some true) && decide (PySem.W.kitOne K (.ref (ca K "NoPaper")) (.ref (ca K "NoRow")) = some false) && decide (PySem.W.kitOne K (.ref (ca K "NoPaper")) (.ref (ca K "NoSlot")) = some false) && decide (PySem.W.kitOne K (.ref (ca K "NoPaper")) (.ref (ca K "PoorCoin")) = some false) && decide (PySem.W.kitOne K (.ref (ca K "NoPaper")) (.ref (ca K "PoorPurse")) = some false) && decide (PySem.W.kitOne K (.ref (ca K "NoPaper")) (.ref (ca K "Taken")) = some false) && decide (PySem.W.kitOne K (.ref (ca K "NoPaper")) (.ref (ca K "TooMuch")) = some false) && decide (PySem.W.kitOne K (.ref (ca K "NoPaper")) (.type "ValueError") = some true)
structure HF (K : PySem.W.Frag) (mg : Str → Option Value) : Prop where
  b_ValueError : mg "ValueError" = none
  b_bool : mg "bool" = none
  b_int : mg "int" = none
  b_isinstance : mg "isinstance" = none
  b_len : mg "len" = none
  b_list : mg "list" = none
  b_min : mg "min" = none
  b_range : mg "range" = none
  b_str : mg "str" = none
  b_tuple : mg "tuple" = none
  g_number_of : mg "number_of" = some (.ref (He.fAd K ("number_of", none)))
  g_shown_numbers : mg "shown_numbers" = some (.ref (He.fAd K ("shown_numbers", none)))
  g_show_paper : mg "show_paper" = some (.ref (He.fAd K ("show_paper", none)))
  g_read_number : mg "read_number" = some (.ref (He.fAd K ("read_number", none)))
  g_read_numbers : mg "read_numbers" = some (.ref (He.fAd K ("read_numbers", none)))
  g_read_paper : mg "read_paper" = some (.ref (He.fAd K ("read_paper", none)))
  g__law_cell_at : mg "_law_cell_at" = some (.ref (He.fAd K ("_law_cell_at", none)))
  g__law_whole : mg "_law_whole" = some (.ref (He.fAd K ("_law_whole", none)))
  g__law_number_of : mg "_law_number_of" = some (.ref (He.fAd K ("_law_number_of", none)))
  g__law_text : mg "_law_text" = some (.ref (He.fAd K ("_law_text", none)))
  g__law_numbers_of : mg "_law_numbers_of" = some (.ref (He.fAd K ("_law_numbers_of", none)))
  g__law_paper_of : mg "_law_paper_of" = some (.ref (He.fAd K ("_law_paper_of", none)))
  g__law_is : mg "_law_is" = some (.ref (He.fAd K ("_law_is", none)))
  g__law_refused_by_any : mg "_law_refused_by_any" = some (.ref (He.fAd K ("_law_refused_by_any", none)))
  g__law_read : mg "_law_read" = some (.ref (He.fAd K ("_law_read", none)))
  g__law_spoilt : mg "_law_spoilt" = some (.ref (He.fAd K ("_law_spoilt", none)))
  g__law_number : mg "_law_number" = some (.ref (He.fAd K ("_law_number", none)))
  g_law : mg "law" = some (.ref (He.fAd K ("law", none)))
  g_HouseError : mg "HouseError" = some (.ref (ca K "HouseError"))
  g_NoAccount : mg "NoAccount" = some (.ref (ca K "NoAccount"))
  g_NoClash : mg "NoClash" = some (.ref (ca K "NoClash"))
  g_NoCode : mg "NoCode" = some (.ref (ca K "NoCode"))
  g_NoLimit : mg "NoLimit" = some (.ref (ca K "NoLimit"))
  g_NoNumber : mg "NoNumber" = some (.ref (ca K "NoNumber"))
  g_NoPaper : mg "NoPaper" = some (.ref (ca K "NoPaper"))
  g_NoRow : mg "NoRow" = some (.ref (ca K "NoRow"))
  g_NoSlot : mg "NoSlot" = some (.ref (ca K "NoSlot"))
  g_PoorCoin : mg "PoorCoin" = some (.ref (ca K "PoorCoin"))
  g_PoorPurse : mg "PoorPurse" = some (.ref (ca K "PoorPurse"))
  g_Taken : mg "Taken" = some (.ref (ca K "Taken"))
  g_TooMuch : mg "TooMuch" = some (.ref (ca K "TooMuch"))
  k_FIGURES : Says mg "FIGURES" (gv K "FIGURES")
  k_WIDE : Says mg "WIDE" (gv K "WIDE")
  x_NoPaper : (He.Fa.exc "NoPaper").ok K = true
  e_NoPaper_HouseError : PySem.W.exmOne K (.ref (ca K "NoPaper")) (.ref (ca K "HouseError")) = some true
  e_NoPaper_NoPaper : PySem.W.exmOne K (.ref (ca K "NoPaper")) (.ref (ca K "NoPaper")) = some true
  xc_NoPaper : ExcC K (ca K "NoPaper")
  s_NoPaper_NoAccount : PySem.W.kitOne K (.ref (ca K "NoPaper")) (.ref (ca K "NoAccount")) = some false
  s_NoPaper_NoClash : PySem.W.kitOne K (.ref (ca K "NoPaper")) (.ref (ca K "NoClash")) = some false
  s_NoPaper_NoCode : PySem.W.kitOne K (.ref (ca K "NoPaper")) (.ref (ca K "NoCode")) = some false
  s_NoPaper_NoLimit : PySem.W.kitOne K (.ref (ca K "NoPaper")) (.ref (ca K "NoLimit")) = some false
  s_NoPaper_NoNumber : PySem.W.kitOne K (.ref (ca K "NoPaper")) (.ref (ca K "NoNumber")) = some false
  s_NoPaper_NoPaper : PySem.W.kitOne K (.ref (ca K "NoPaper")) (.ref (ca K "NoPaper")) = some true
  s_NoPaper_NoRow : PySem.W.kitOne K (.ref (ca K "NoPaper")) (.ref (ca K "NoRow")) = some false
  s_NoPaper_NoSlot : PySem.W.kitOne K (.ref (ca K "NoPaper")) (.ref (ca K "NoSlot")) = some false
  s_NoPaper_PoorCoin : PySem.W.kitOne K (.ref (ca K "NoPaper")) (.ref (ca K "PoorCoin")) = some false
  s_NoPaper_PoorPurse : PySem.W.kitOne K (.ref (ca K "NoPaper")) (.ref (ca K "PoorPurse")) = some false
  s_NoPaper_Taken : PySem.W.kitOne K (.ref (ca K "NoPaper")) (.ref (ca K "Taken")) = some false
  s_NoPaper_TooMuch : PySem.W.kitOne K (.ref (ca K "NoPaper")) (.ref (ca K "TooMuch")) = some false
  sb_NoPaper_ValueError : PySem.W.kitOne K (.ref (ca K "NoPaper")) (.type "ValueError") = some true
  d_number_of : ∃ fd, FN_number_of K fd
  d_shown_numbers : ∃ fd, FN_shown_numbers K fd
  d_show_paper : ∃ fd, FN_show_paper K fd
  d_read_number : ∃ fd, FN_read_number K fd
  d_read_numbers : ∃ fd, FN_read_numbers K fd
  d_read_paper : ∃ fd, FN_read_paper K fd
  d_l_cell_at : ∃ fd, FN_l_cell_at K fd
  d_l_whole : ∃ fd, FN_l_whole K fd
  d_l_number_of : ∃ fd, FN_l_number_of K fd
  d_l_text : ∃ fd, FN_l_text K fd
  d_l_numbers_of : ∃ fd, FN_l_numbers_of K fd
  d_l_paper_of : ∃ fd, FN_l_paper_of K fd
  d_l_is : ∃ fd, FN_l_is K fd
  d_l_refused_by_any : ∃ fd, FN_l_refused_by_any K fd
  d_l_read : ∃ fd, FN_l_read K fd
  d_l_spoilt : ∃ fd, FN_l_spoilt K fd
  d_l_number : ∃ fd, FN_l_number K fd
  d_law : ∃ fd, FN_law K fd
theorem hf_of {K : PySem.W.Frag} {h : Heap} {mg : Str → Option Value} (X : K.In h) (G : h.Ns mainGlobals mg) (c : SaysZ fas dfs exb K) : HF K mg :=
  ⟨He.free_ok X G (c.d.fact 0 (f := .free "ValueError") rfl),
   He.free_ok X G (c.d.fact 1 (f := .free "bool") rfl),
   He.free_ok X G (c.d.fact 2 (f := .free "int") rfl),
   He.free_ok X G (c.d.fact 3 (f := .free "isinstance") rfl),
   He.free_ok X G (c.d.fact 4 (f := .free "len") rfl),
   He.free_ok X G (c.d.fact 5 (f := .free "list") rfl),
   He.free_ok X G (c.d.fact 6 (f := .free "min") rfl),
   He.free_ok X G (c.d.fact 7 (f := .free "range") rfl),
   He.free_ok X G (c.d.fact 8 (f := .free "str") rfl),
   He.free_ok X G (c.d.fact 9 (f := .free "tuple") rfl),
   He.glo_ok X G (c.d.fact 10 (f := .glo "number_of") rfl),
   He.glo_ok X G (c.d.fact 11 (f := .glo "shown_numbers") rfl),
   He.glo_ok X G (c.d.fact 12 (f := .glo "show_paper") rfl),
   He.glo_ok X G (c.d.fact 13 (f := .glo "read_number") rfl),
   He.glo_ok X G (c.d.fact 14 (f := .glo "read_numbers") rfl),
   He.glo_ok X G (c.d.fact 15 (f := .glo "read_paper") rfl),
   He.glo_ok X G (c.d.fact 16 (f := .glo "_law_cell_at") rfl),
   He.glo_ok X G (c.d.fact 17 (f := .glo "_law_whole") rfl),
   He.glo_ok X G (c.d.fact 18 (f := .glo "_law_number_of") rfl),
   He.glo_ok X G (c.d.fact 19 (f := .glo "_law_text") rfl),
   He.glo_ok X G (c.d.fact 20 (f := .glo "_law_numbers_of") rfl),
   He.glo_ok X G (c.d.fact 21 (f := .glo "_law_paper_of") rfl),
   He.glo_ok X G (c.d.fact 22 (f := .glo "_law_is") rfl),
   He.glo_ok X G (c.d.fact 23 (f := .glo "_law_refused_by_any") rfl),
   He.glo_ok X G (c.d.fact 24 (f := .glo "_law_read") rfl),
   He.glo_ok X G (c.d.fact 25 (f := .glo "_law_spoilt") rfl),
   He.glo_ok X G (c.d.fact 26 (f := .glo "_law_number") rfl),
   He.glo_ok X G (c.d.fact 27 (f := .glo "law") rfl),
   He.glo_ok X G (c.d.fact 28 (f := .glo "HouseError") rfl),
   He.glo_ok X G (c.d.fact 29 (f := .glo "NoAccount") rfl),
   He.glo_ok X G (c.d.fact 30 (f := .glo "NoClash") rfl),
   He.glo_ok X G (c.d.fact 31 (f := .glo "NoCode") rfl),
   He.glo_ok X G (c.d.fact 32 (f := .glo "NoLimit") rfl),
   He.glo_ok X G (c.d.fact 33 (f := .glo "NoNumber") rfl),
   He.glo_ok X G (c.d.fact 34 (f := .glo "NoPaper") rfl),
   He.glo_ok X G (c.d.fact 35 (f := .glo "NoRow") rfl),
   He.glo_ok X G (c.d.fact 36 (f := .glo "NoSlot") rfl),
   He.glo_ok X G (c.d.fact 37 (f := .glo "PoorCoin") rfl),
   He.glo_ok X G (c.d.fact 38 (f := .glo "PoorPurse") rfl),
   He.glo_ok X G (c.d.fact 39 (f := .glo "Taken") rfl),
   He.glo_ok X G (c.d.fact 40 (f := .glo "TooMuch") rfl),
   says_str X G (c.d.fact 41 (f := .str "FIGURES" "0123456789") rfl),
   says_int X G (c.d.fact 42 (f := .int "WIDE" 18446744073709551616) rfl),
   c.d.fact 43 (f := .exc "NoPaper") rfl,
   of_decide_eq_true ((He.ba (He.ba (He.ba (He.ba (He.ba (He.ba (He.ba (He.ba (He.ba (He.ba (He.ba (He.ba (He.ba (He.ba (He.ba c.more).1).1).1).1).1).1).1).1).1).1).1).1).1).1).1),
   of_decide_eq_true ((He.ba (He.ba (He.ba (He.ba (He.ba (He.ba (He.ba (He.ba (He.ba (He.ba (He.ba (He.ba (He.ba (He.ba (He.ba c.more).1).1).1).1).1).1).1).1).1).1).1).1).1).1).2),
   excC_ok ((He.ba (He.ba (He.ba (He.ba (He.ba (He.ba (He.ba (He.ba (He.ba (He.ba (He.ba (He.ba (He.ba (He.ba c.more).1).1).1).1).1).1).1).1).1).1).1).1).1).2),
   of_decide_eq_true ((He.ba (He.ba (He.ba (He.ba (He.ba (He.ba (He.ba (He.ba (He.ba (He.ba (He.ba (He.ba (He.ba c.more).1).1).1).1).1).1).1).1).1).1).1).1).2),
   of_decide_eq_true ((He.ba (He.ba (He.ba (He.ba (He.ba (He.ba (He.ba (He.ba (He.ba (He.ba (He.ba (He.ba c.more).1).1).1).1).1).1).1).1).1).1).1).2),
   of_decide_eq_true ((He.ba (He.ba (He.ba (He.ba (He.ba (He.ba (He.ba (He.ba (He.ba (He.ba (He.ba c.more).1).1).1).1).1).1).1).1).1).1).2),
   of_decide_eq_true ((He.ba (He.ba (He.ba (He.ba (He.ba (He.ba (He.ba (He.ba (He.ba (He.ba c.more).1).1).1).1).1).1).1).1).1).2),
   of_decide_eq_true ((He.ba (He.ba (He.ba (He.ba (He.ba (He.ba (He.ba (He.ba (He.ba c.more).1).1).1).1).1).1).1).1).2),
   of_decide_eq_true ((He.ba (He.ba (He.ba (He.ba (He.ba (He.ba (He.ba (He.ba c.more).1).1).1).1).1).1).1).2),
   of_decide_eq_true ((He.ba (He.ba (He.ba (He.ba (He.ba (He.ba (He.ba c.more).1).1).1).1).1).1).2),
   of_decide_eq_true ((He.ba (He.ba (He.ba (He.ba (He.ba (He.ba c.more).1).1).1).1).1).2),
   of_decide_eq_true ((He.ba (He.ba (He.ba (He.ba (He.ba c.more).1).1).1).1).2),
   of_decide_eq_true ((He.ba (He.ba (He.ba (He.ba c.more).1).1).1).2),
   of_decide_eq_true ((He.ba (He.ba (He.ba c.more).1).1).2),
   of_decide_eq_true ((He.ba (He.ba c.more).1).2),
   of_decide_eq_true ((He.ba c.more).2),
   c.d.def_ 0 (d := df_number_of) rfl,
   c.d.def_ 1 (d := df_shown_numbers) rfl,
   c.d.def_ 2 (d := df_show_paper) rfl,
   c.d.def_ 3 (d := df_read_number) rfl,
   c.d.def_ 4 (d := df_read_numbers) rfl,
   c.d.def_ 5 (d := df_read_paper) rfl,
   c.d.def_ 6 (d := df_l_cell_at) rfl,
   c.d.def_ 7 (d := df_l_whole) rfl,
   c.d.def_ 8 (d := df_l_number_of) rfl,
   c.d.def_ 9 (d := df_l_text) rfl,
   c.d.def_ 10 (d := df_l_numbers_of) rfl,
   c.d.def_ 11 (d := df_l_paper_of) rfl,
   c.d.def_ 12 (d := df_l_is) rfl,
   c.d.def_ 13 (d := df_l_refused_by_any) rfl,
   c.d.def_ 14 (d := df_l_read) rfl,
   c.d.def_ 15 (d := df_l_spoilt) rfl,
   c.d.def_ 16 (d := df_l_number) rfl,
   c.d.def_ 17 (d := df_law) rfl⟩
theorem facts {K : PySem.W.Frag} {mg : Str → Option Value} (T : HF K mg) : Facts PR K (gv K) where
  con := by
    intro x d h r n H
    simp only [PR] at h
    split at h
    · cases h; exact .str _
    · cases h; exact .int _
    · cases h
  tup := by
    intro x xs h H
    simp only [PR] at h
    split at h
    · cases h
    · cases h
    · cases h
  fld := fun _ _ h => nomatch h
  sub := fun _ _ _ h => nomatch h
  exm := by
    intro k cm b h
    simp only [PR] at h
    split at h
    · cases h; exact T.e_NoPaper_HouseError
    · cases h; exact T.e_NoPaper_NoPaper
    · cases h
  exs := by
    intro k cm b h
    simp only [PR] at h
    split at h
    · cases h; exact ⟨T.xc_NoPaper, T.s_NoPaper_NoAccount⟩
    · cases h; exact ⟨T.xc_NoPaper, T.s_NoPaper_NoClash⟩
    · cases h; exact ⟨T.xc_NoPaper, T.s_NoPaper_NoCode⟩
    · cases h; exact ⟨T.xc_NoPaper, T.s_NoPaper_NoLimit⟩
    · cases h; exact ⟨T.xc_NoPaper, T.s_NoPaper_NoNumber⟩
    · cases h; exact ⟨T.xc_NoPaper, T.s_NoPaper_NoPaper⟩
    · cases h; exact ⟨T.xc_NoPaper, T.s_NoPaper_NoRow⟩
    · cases h; exact ⟨T.xc_NoPaper, T.s_NoPaper_NoSlot⟩
    · cases h; exact ⟨T.xc_NoPaper, T.s_NoPaper_PoorCoin⟩
    · cases h; exact ⟨T.xc_NoPaper, T.s_NoPaper_PoorPurse⟩
    · cases h; exact ⟨T.xc_NoPaper, T.s_NoPaper_Taken⟩
    · cases h; exact ⟨T.xc_NoPaper, T.s_NoPaper_TooMuch⟩
    · cases h
  exb := by
    intro k cm b h
    simp only [PR] at h
    split at h
    · cases h; exact ⟨T.xc_NoPaper, T.sb_NoPaper_ValueError⟩
    · cases h
  nox := rfl
structure AL (P : Program) (w : World) (K : PySem.W.Frag) (mg : Str → Option Value) (base : Heap) (n : Nat) : Prop where
  number_of : Cal P w K mg base (L2.CX P w) (2 * n) (He.fAd K ("number_of", none)) ["text"] [] (spR PR K n "number_of")
  shown_numbers : Cal P w K mg base (L2.CX P w) (2 * n) (He.fAd K ("shown_numbers", none)) ["numbers"] [] (spR PR K n "shown_numbers")
  show_paper : Cal P w K mg base (L2.CX P w) (2 * n) (He.fAd K ("show_paper", none)) ["paper"] [] (spR PR K n "show_paper")
  read_number : Cal P w K mg base (L2.CX P w) (2 * n) (He.fAd K ("read_number", none)) ["word"] [] (spR PR K n "read_number")
  read_numbers : Cal P w K mg base (L2.CX P w) (2 * n) (He.fAd K ("read_numbers", none)) ["text"] [] (spR PR K n "read_numbers")
  read_paper : Cal P w K mg base (L2.CX P w) (2 * n) (He.fAd K ("read_paper", none)) ["text"] [] (spR PR K n "read_paper")
  l_cell_at : Cal P w K mg base (L2.CX P w) (2 * n) (He.fAd K ("_law_cell_at", none)) ["_law_script", "_law_k"] [] (spR PR K n "_law_cell_at")
  l_whole : Cal P w K mg base (L2.CX P w) (2 * n) (He.fAd K ("_law_whole", none)) ["_law_found"] [] (spR PR K n "_law_whole")
  l_number_of : Cal P w K mg base (L2.CX P w) (2 * n) (He.fAd K ("_law_number_of", none)) ["_law_word"] [] (spR PR K n "_law_number_of")
  l_text : Cal P w K mg base (L2.CX P w) (2 * n) (He.fAd K ("_law_text", none)) ["_law_paper"] [] (spR PR K n "_law_text")
  l_numbers_of : Cal P w K mg base (L2.CX P w) (2 * n) (He.fAd K ("_law_numbers_of", none)) ["_law_part"] [] (spR PR K n "_law_numbers_of")
  l_paper_of : Cal P w K mg base (L2.CX P w) (2 * n) (He.fAd K ("_law_paper_of", none)) ["_law_text_here"] [] (spR PR K n "_law_paper_of")
  l_is : Cal P w K mg base (L2.CX P w) (2 * n) (He.fAd K ("_law_is", none)) ["_law_found", "_law_due"] [] (spR PR K n "_law_is")
  l_refused_by_any : Cal P w K mg base (L2.CX P w) (2 * n) (He.fAd K ("_law_refused_by_any", none)) ["_law_text_here"] [] (spR PR K n "_law_refused_by_any")
  l_read : Cal P w K mg base (L2.CX P w) (2 * n) (He.fAd K ("_law_read", none)) ["_law_text_here"] [] (spR PR K n "_law_read")
  l_spoilt : Cal P w K mg base (L2.CX P w) (2 * n) (He.fAd K ("_law_spoilt", none)) ["_law_text_here", "_law_kind", "_law_at", "_law_cell"] [] (spR PR K n "_law_spoilt")
  l_number : Cal P w K mg base (L2.CX P w) (2 * n) (He.fAd K ("_law_number", none)) ["_law_cell"] [] (spR PR K n "_law_number")
  law : Cal P w K mg base (L2.CX P w) (2 * n) (He.fAd K ("law", none)) ["_law_script"] [] (spR PR K n "law")
theorem cal_number_of {P : Program} {w : World} {K : PySem.W.Frag} {mg : Str → Option Value} {base : Heap} (T : HF K mg) {k : Nat} {sp : Sp} (h : ∀ fd, FN_number_of K fd → FnOk P w K mg base (L2.CX P w) k (He.fAd K ("number_of", none)) fd ["text"] sp) : Cal P w K mg base (L2.CX P w) (k) (He.fAd K ("number_of", none)) ["text"] [] (sp) := by
  obtain ⟨fd, F⟩ := T.d_number_of
  exact cal_of F (h fd F) (fun _ _ _ _ _ _ us hl => match us, hl with | [_], _ => rfl)
theorem cal_shown_numbers {P : Program} {w : World} {K : PySem.W.Frag} {mg : Str → Option Value} {base : Heap} (T : HF K mg) {k : Nat} {sp : Sp} (h : ∀ fd, FN_shown_numbers K fd → FnOk P w K mg base (L2.CX P w) k (He.fAd K ("shown_numbers", none)) fd ["numbers"] sp) : Cal P w K mg base (L2.CX P w) (k) (He.fAd K ("shown_numbers", none)) ["numbers"] [] (sp) := by
  obtain ⟨fd, F⟩ := T.d_shown_numbers
  exact cal_of F (h fd F) (fun _ _ _ _ _ _ us hl => match us, hl with | [_], _ => rfl)
theorem cal_show_paper {P : Program} {w : World} {K : PySem.W.Frag} {mg : Str → Option Value} {base : Heap} (T : HF K mg) {k : Nat} {sp : Sp} (h : ∀ fd, FN_show_paper K fd → FnOk P w K mg base (L2.CX P w) k (He.fAd K ("show_paper", none)) fd ["paper"] sp) : Cal P w K mg base (L2.CX P w) (k) (He.fAd K ("show_paper", none)) ["paper"] [] (sp) := by
  obtain ⟨fd, F⟩ := T.d_show_paper
  exact cal_of F (h fd F) (fun _ _ _ _ _ _ us hl => match us, hl with | [_], _ => rfl)
theorem cal_read_number {P : Program} {w : World} {K : PySem.W.Frag} {mg : Str → Option Value} {base : Heap} (T : HF K mg) {k : Nat} {sp : Sp} (h : ∀ fd, FN_read_number K fd → FnOk P w K mg base (L2.CX P w) k (He.fAd K ("read_number", none)) fd ["word"] sp) : Cal P w K mg base (L2.CX P w) (k) (He.fAd K ("read_number", none)) ["word"] [] (sp) := by
  obtain ⟨fd, F⟩ := T.d_read_number
  exact cal_of F (h fd F) (fun _ _ _ _ _ _ us hl => match us, hl with | [_], _ => rfl)
theorem cal_read_numbers {P : Program} {w : World} {K : PySem.W.Frag} {mg : Str → Option Value} {base : Heap} (T : HF K mg) {k : Nat} {sp : Sp} (h : ∀ fd, FN_read_numbers K fd → FnOk P w K mg base (L2.CX P w) k (He.fAd K ("read_numbers", none)) fd ["text"] sp) : Cal P w K mg base (L2.CX P w) (k) (He.fAd K ("read_numbers", none)) ["text"] [] (sp) := by
  obtain ⟨fd, F⟩ := T.d_read_numbers
  exact cal_of F (h fd F) (fun _ _ _ _ _ _ us hl => match us, hl with | [_], _ => rfl)
theorem cal_read_paper {P : Program} {w : World} {K : PySem.W.Frag} {mg : Str → Option Value} {base : Heap} (T : HF K mg) {k : Nat} {sp : Sp} (h : ∀ fd, FN_read_paper K fd → FnOk P w K mg base (L2.CX P w) k (He.fAd K ("read_paper", none)) fd ["text"] sp) : Cal P w K mg base (L2.CX P w) (k) (He.fAd K ("read_paper", none)) ["text"] [] (sp) := by
  obtain ⟨fd, F⟩ := T.d_read_paper
  exact cal_of F (h fd F) (fun _ _ _ _ _ _ us hl => match us, hl with | [_], _ => rfl)
theorem cal_l_cell_at {P : Program} {w : World} {K : PySem.W.Frag} {mg : Str → Option Value} {base : Heap} (T : HF K mg) {k : Nat} {sp : Sp} (h : ∀ fd, FN_l_cell_at K fd → FnOk P w K mg base (L2.CX P w) k (He.fAd K ("_law_cell_at", none)) fd ["_law_script", "_law_k"] sp) : Cal P w K mg base (L2.CX P w) (k) (He.fAd K ("_law_cell_at", none)) ["_law_script", "_law_k"] [] (sp) := by
  obtain ⟨fd, F⟩ := T.d_l_cell_at
  exact cal_of F (h fd F) (fun _ _ _ _ _ _ us hl => match us, hl with | [_, _], _ => rfl)
theorem cal_l_whole {P : Program} {w : World} {K : PySem.W.Frag} {mg : Str → Option Value} {base : Heap} (T : HF K mg) {k : Nat} {sp : Sp} (h : ∀ fd, FN_l_whole K fd → FnOk P w K mg base (L2.CX P w) k (He.fAd K ("_law_whole", none)) fd ["_law_found"] sp) : Cal P w K mg base (L2.CX P w) (k) (He.fAd K ("_law_whole", none)) ["_law_found"] [] (sp) := by
  obtain ⟨fd, F⟩ := T.d_l_whole
  exact cal_of F (h fd F) (fun _ _ _ _ _ _ us hl => match us, hl with | [_], _ => rfl)
theorem cal_l_number_of {P : Program} {w : World} {K : PySem.W.Frag} {mg : Str → Option Value} {base : Heap} (T : HF K mg) {k : Nat} {sp : Sp} (h : ∀ fd, FN_l_number_of K fd → FnOk P w K mg base (L2.CX P w) k (He.fAd K ("_law_number_of", none)) fd ["_law_word"] sp) : Cal P w K mg base (L2.CX P w) (k) (He.fAd K ("_law_number_of", none)) ["_law_word"] [] (sp) := by
  obtain ⟨fd, F⟩ := T.d_l_number_of
  exact cal_of F (h fd F) (fun _ _ _ _ _ _ us hl => match us, hl with | [_], _ => rfl)
theorem cal_l_text {P : Program} {w : World} {K : PySem.W.Frag} {mg : Str → Option Value} {base : Heap} (T : HF K mg) {k : Nat} {sp : Sp} (h : ∀ fd, FN_l_text K fd → FnOk P w K mg base (L2.CX P w) k (He.fAd K ("_law_text", none)) fd ["_law_paper"] sp) : Cal P w K mg base (L2.CX P w) (k) (He.fAd K ("_law_text", none)) ["_law_paper"] [] (sp) := by
  obtain ⟨fd, F⟩ := T.d_l_text
  exact cal_of F (h fd F) (fun _ _ _ _ _ _ us hl => match us, hl with | [_], _ => rfl)
theorem cal_l_numbers_of {P : Program} {w : World} {K : PySem.W.Frag} {mg : Str → Option Value} {base : Heap} (T : HF K mg) {k : Nat} {sp : Sp} (h : ∀ fd, FN_l_numbers_of K fd → FnOk P w K mg base (L2.CX P w) k (He.fAd K ("_law_numbers_of", none)) fd ["_law_part"] sp) : Cal P w K mg base (L2.CX P w) (k) (He.fAd K ("_law_numbers_of", none)) ["_law_part"] [] (sp) := by
  obtain ⟨fd, F⟩ := T.d_l_numbers_of
  exact cal_of F (h fd F) (fun _ _ _ _ _ _ us hl => match us, hl with | [_], _ => rfl)
theorem cal_l_paper_of {P : Program} {w : World} {K : PySem.W.Frag} {mg : Str → Option Value} {base : Heap} (T : HF K mg) {k : Nat} {sp : Sp} (h : ∀ fd, FN_l_paper_of K fd → FnOk P w K mg base (L2.CX P w) k (He.fAd K ("_law_paper_of", none)) fd ["_law_text_here"] sp) : Cal P w K mg base (L2.CX P w) (k) (He.fAd K ("_law_paper_of", none)) ["_law_text_here"] [] (sp) := by
  obtain ⟨fd, F⟩ := T.d_l_paper_of
  exact cal_of F (h fd F) (fun _ _ _ _ _ _ us hl => match us, hl with | [_], _ => rfl)
theorem cal_l_is {P : Program} {w : World} {K : PySem.W.Frag} {mg : Str → Option Value} {base : Heap} (T : HF K mg) {k : Nat} {sp : Sp} (h : ∀ fd, FN_l_is K fd → FnOk P w K mg base (L2.CX P w) k (He.fAd K ("_law_is", none)) fd ["_law_found", "_law_due"] sp) : Cal P w K mg base (L2.CX P w) (k) (He.fAd K ("_law_is", none)) ["_law_found", "_law_due"] [] (sp) := by
  obtain ⟨fd, F⟩ := T.d_l_is
  exact cal_of F (h fd F) (fun _ _ _ _ _ _ us hl => match us, hl with | [_, _], _ => rfl)
theorem cal_l_refused_by_any {P : Program} {w : World} {K : PySem.W.Frag} {mg : Str → Option Value} {base : Heap} (T : HF K mg) {k : Nat} {sp : Sp} (h : ∀ fd, FN_l_refused_by_any K fd → FnOk P w K mg base (L2.CX P w) k (He.fAd K ("_law_refused_by_any", none)) fd ["_law_text_here"] sp) : Cal P w K mg base (L2.CX P w) (k) (He.fAd K ("_law_refused_by_any", none)) ["_law_text_here"] [] (sp) := by
  obtain ⟨fd, F⟩ := T.d_l_refused_by_any
  exact cal_of F (h fd F) (fun _ _ _ _ _ _ us hl => match us, hl with | [_], _ => rfl)
theorem cal_l_read {P : Program} {w : World} {K : PySem.W.Frag} {mg : Str → Option Value} {base : Heap} (T : HF K mg) {k : Nat} {sp : Sp} (h : ∀ fd, FN_l_read K fd → FnOk P w K mg base (L2.CX P w) k (He.fAd K ("_law_read", none)) fd ["_law_text_here"] sp) : Cal P w K mg base (L2.CX P w) (k) (He.fAd K ("_law_read", none)) ["_law_text_here"] [] (sp) := by
  obtain ⟨fd, F⟩ := T.d_l_read
  exact cal_of F (h fd F) (fun _ _ _ _ _ _ us hl => match us, hl with | [_], _ => rfl)
theorem cal_l_spoilt {P : Program} {w : World} {K : PySem.W.Frag} {mg : Str → Option Value} {base : Heap} (T : HF K mg) {k : Nat} {sp : Sp} (h : ∀ fd, FN_l_spoilt K fd → FnOk P w K mg base (L2.CX P w) k (He.fAd K ("_law_spoilt", none)) fd ["_law_text_here", "_law_kind", "_law_at", "_law_cell"] sp) : Cal P w K mg base (L2.CX P w) (k) (He.fAd K ("_law_spoilt", none)) ["_law_text_here", "_law_kind", "_law_at", "_law_cell"] [] (sp) := by
  obtain ⟨fd, F⟩ := T.d_l_spoilt
  exact cal_of F (h fd F) (fun _ _ _ _ _ _ us hl => match us, hl with | [_, _, _, _], _ => rfl)
theorem cal_l_number {P : Program} {w : World} {K : PySem.W.Frag} {mg : Str → Option Value} {base : Heap} (T : HF K mg) {k : Nat} {sp : Sp} (h : ∀ fd, FN_l_number K fd → FnOk P w K mg base (L2.CX P w) k (He.fAd K ("_law_number", none)) fd ["_law_cell"] sp) : Cal P w K mg base (L2.CX P w) (k) (He.fAd K ("_law_number", none)) ["_law_cell"] [] (sp) := by
  obtain ⟨fd, F⟩ := T.d_l_number
  exact cal_of F (h fd F) (fun _ _ _ _ _ _ us hl => match us, hl with | [_], _ => rfl)
theorem cal_law {P : Program} {w : World} {K : PySem.W.Frag} {mg : Str → Option Value} {base : Heap} (T : HF K mg) {k : Nat} {sp : Sp} (h : ∀ fd, FN_law K fd → FnOk P w K mg base (L2.CX P w) k (He.fAd K ("law", none)) fd ["_law_script"] sp) : Cal P w K mg base (L2.CX P w) (k) (He.fAd K ("law", none)) ["_law_script"] [] (sp) := by
  obtain ⟨fd, F⟩ := T.d_law
  exact cal_of F (h fd F) (fun _ _ _ _ _ _ us hl => match us, hl with | [_], _ => rfl)
theorem ok_number_of {P : Program} {w : World} {K : PySem.W.Frag} {mg : Str → Option Value} {base : Heap} {n : Nat} (T : HF K mg) (A : AL P w K mg base n) {fd : FuncData} (F : FN_number_of K fd) : FnOk P w K mg base (L2.CX P w) (2 * (n + 1)) (He.fAd K ("number_of", none)) fd ["text"] (spR PR K (n + 1) "number_of") :=
  F.ok (k := 2 * n + 1) sc_number_of (fun _ _ _ _ h => spR_len fn_number_of h) fun cdv A0 outer s H vs Q E hr1 h => by
    have hr : Room (2 * n) (A0.deeper (envOfC "number_of" (defScope st_number_of) s.heap.objs.size (He.fAd K ("number_of", none)) cdv)) := hr1.mono (Nat.le_succ _)
    have hu := hr.units
    have nd := sc_number_of.nd
    have zo : PassesOwn (model P w) (cxOf (L2.CX P w) P w K mg base ["text", "sign", "number"] "number_of" (defScope st_number_of) (He.fAd K ("number_of", none)) cdv A0 outer s H E).A (cxOf (L2.CX P w) P w K mg base ["text", "sign", "number"] "number_of" (defScope st_number_of) (He.fAd K ("number_of", none)) cdv A0 outer s H E).env (cxOf (L2.CX P w) P w K mg base ["text", "sign", "number"] "number_of" (defScope st_number_of) (He.fAd K ("number_of", none)) cdv A0 outer s H E).xe := passes_of rfl
    have zt : Takes (cxOf (L2.CX P w) P w K mg base ["text", "sign", "number"] "number_of" (defScope st_number_of) (He.fAd K ("number_of", none)) cdv A0 outer s H E) (fun cls d _ H => E cls d H) := takes_of rfl rfl rfl rfl
    exact ⟨rdS (rc PR K (gv K) n fun cls d _ H => E cls d H) F_number_of.body, (pss_cons (ps_if (PW.pt (pw_or (pt_cmpR (z_lt hu) (zb_len rfl T.b_len (pa_cons (pv 0) (pa_nil))) (pe_int) (nomark _)) (pw_or1 (pt_cmpR (z_gt hu) (zb_len rfl T.b_len (pa_cons (pv 0) (pa_nil))) (pe_int) (nomark _))))) (pss_one (ps_ret (pe_non))) (pss_nil)) (pss_cons (ps_for zo rfl (zi_seq (pv 0)) (znm 1 nd) (pss_one (ps_if (pt_cmpR (z_nin hu) (pv 1) (zglo T.k_FIGURES) (by rfl)) (pss_one (ps_ret (pe_non))) (pss_nil)))) (pss_cons (ps_if (PW.pt (pw_and (pt_cmpR (z_eq hu) (pe_ix ix_seq (pv 0) (pe_int) (fun _ _ => rfl)) (pe_str) (nomark _)) (pw_and1 (pt_cmpR (z_gt hu) (zb_len rfl T.b_len (pa_cons (pv 0) (pa_nil))) (pe_int) (nomark _))))) (pss_one (ps_ret (pe_non))) (pss_nil)) (pss_cons (zset 2 nd (zb_int rfl T.b_int (pa_cons (pv 0) (pa_nil)))) (pss_cons (ps_if (pt_cmpR (z_lt hu) (pv 2) (zglo T.k_WIDE) (nomark _)) (pss_one (ps_ret (pv 2))) (pss_nil)) (pss_one (ps_ret (pe_non)))))))), body_ok (facts T) fn_number_of rfl h⟩
theorem ok_shown_numbers {P : Program} {w : World} {K : PySem.W.Frag} {mg : Str → Option Value} {base : Heap} {n : Nat} (T : HF K mg) (A : AL P w K mg base n) {fd : FuncData} (F : FN_shown_numbers K fd) : FnOk P w K mg base (L2.CX P w) (2 * (n + 1)) (He.fAd K ("shown_numbers", none)) fd ["numbers"] (spR PR K (n + 1) "shown_numbers") :=
  F.ok (k := 2 * n + 1) sc_shown_numbers (fun _ _ _ _ h => spR_len fn_shown_numbers h) fun cdv A0 outer s H vs Q E hr1 h => by
    have hr : Room (2 * n) (A0.deeper (envOfC "shown_numbers" (defScope st_shown_numbers) s.heap.objs.size (He.fAd K ("shown_numbers", none)) cdv)) := hr1.mono (Nat.le_succ _)
    have hu := hr.units
    have nd := sc_shown_numbers.nd
    have zo : PassesOwn (model P w) (cxOf (L2.CX P w) P w K mg base ["numbers", "number"] "shown_numbers" (defScope st_shown_numbers) (He.fAd K ("shown_numbers", none)) cdv A0 outer s H E).A (cxOf (L2.CX P w) P w K mg base ["numbers", "number"] "shown_numbers" (defScope st_shown_numbers) (He.fAd K ("shown_numbers", none)) cdv A0 outer s H E).env (cxOf (L2.CX P w) P w K mg base ["numbers", "number"] "shown_numbers" (defScope st_shown_numbers) (He.fAd K ("shown_numbers", none)) cdv A0 outer s H E).xe := passes_of rfl
    have zt : Takes (cxOf (L2.CX P w) P w K mg base ["numbers", "number"] "shown_numbers" (defScope st_shown_numbers) (He.fAd K ("shown_numbers", none)) cdv A0 outer s H E) (fun cls d _ H => E cls d H) := takes_of rfl rfl rfl rfl
    exact ⟨rdS (rc PR K (gv K) n fun cls d _ H => E cls d H) F_shown_numbers.body, (pss_one (ps_ret (zm_join (pe_str) (pe_lc (own := [("number", 1)]) rfl nd (zi_seq (pv 0)) (blkOk_by (own := [("number", 1)]) (by kernel_rfl)) (fun _ _ _ _ _ => znm 1 nd) (fun _ _ _ _ _ => pts_nil) (fun _ _ _ _ _ => zb_str rfl T.b_str (pa_cons (pv 1) (pa_nil))))))), body_ok (facts T) fn_shown_numbers rfl h⟩
theorem ok_show_paper {P : Program} {w : World} {K : PySem.W.Frag} {mg : Str → Option Value} {base : Heap} {n : Nat} (T : HF K mg) (A : AL P w K mg base n) {fd : FuncData} (F : FN_show_paper K fd) : FnOk P w K mg base (L2.CX P w) (2 * (n + 1)) (He.fAd K ("show_paper", none)) fd ["paper"] (spR PR K (n + 1) "show_paper") :=
  F.ok (k := 2 * n + 1) sc_show_paper (fun _ _ _ _ h => spR_len fn_show_paper h) fun cdv A0 outer s H vs Q E hr1 h => by
    have hr : Room (2 * n) (A0.deeper (envOfC "show_paper" (defScope st_show_paper) s.heap.objs.size (He.fAd K ("show_paper", none)) cdv)) := hr1.mono (Nat.le_succ _)
    have hu := hr.units
    have nd := sc_show_paper.nd
    have zo : PassesOwn (model P w) (cxOf (L2.CX P w) P w K mg base ["paper"] "show_paper" (defScope st_show_paper) (He.fAd K ("show_paper", none)) cdv A0 outer s H E).A (cxOf (L2.CX P w) P w K mg base ["paper"] "show_paper" (defScope st_show_paper) (He.fAd K ("show_paper", none)) cdv A0 outer s H E).env (cxOf (L2.CX P w) P w K mg base ["paper"] "show_paper" (defScope st_show_paper) (He.fAd K ("show_paper", none)) cdv A0 outer s H E).xe := passes_of rfl
    have zt : Takes (cxOf (L2.CX P w) P w K mg base ["paper"] "show_paper" (defScope st_show_paper) (He.fAd K ("show_paper", none)) cdv A0 outer s H E) (fun cls d _ H => E cls d H) := takes_of rfl rfl rfl rfl
    exact ⟨rdS (rc PR K (gv K) n fun cls d _ H => E cls d H) F_show_paper.body, (pss_one (ps_ret (zm_join (pe_str) (pe_lst (pa_cons (zb_str rfl T.b_str (pa_cons (pe_ix ix_seq (pv 0) (pe_int) (fun _ _ => rfl)) (pa_nil))) (pa_cons (zcall (A.shown_numbers) hr rfl T.g_shown_numbers zpD (pa_cons (pe_ix ix_seq (pv 0) (pe_int) (fun _ _ => rfl)) (pa_nil))) (pa_cons (zcall (A.shown_numbers) hr rfl T.g_shown_numbers zpD (pa_cons (pe_ix ix_seq (pv 0) (pe_int) (fun _ _ => rfl)) (pa_nil))) (pa_nil)))))))), body_ok (facts T) fn_show_paper rfl h⟩
theorem ok_read_number {P : Program} {w : World} {K : PySem.W.Frag} {mg : Str → Option Value} {base : Heap} {n : Nat} (T : HF K mg) (A : AL P w K mg base n) {fd : FuncData} (F : FN_read_number K fd) : FnOk P w K mg base (L2.CX P w) (2 * (n + 1)) (He.fAd K ("read_number", none)) fd ["word"] (spR PR K (n + 1) "read_number") :=
  F.ok (k := 2 * n + 1) sc_read_number (fun _ _ _ _ h => spR_len fn_read_number h) fun cdv A0 outer s H vs Q E hr1 h => by
    have hr : Room (2 * n) (A0.deeper (envOfC "read_number" (defScope st_read_number) s.heap.objs.size (He.fAd K ("read_number", none)) cdv)) := hr1.mono (Nat.le_succ _)
    have hu := hr.units
    have nd := sc_read_number.nd
    have zo : PassesOwn (model P w) (cxOf (L2.CX P w) P w K mg base ["word", "found"] "read_number" (defScope st_read_number) (He.fAd K ("read_number", none)) cdv A0 outer s H E).A (cxOf (L2.CX P w) P w K mg base ["word", "found"] "read_number" (defScope st_read_number) (He.fAd K ("read_number", none)) cdv A0 outer s H E).env (cxOf (L2.CX P w) P w K mg base ["word", "found"] "read_number" (defScope st_read_number) (He.fAd K ("read_number", none)) cdv A0 outer s H E).xe := passes_of rfl
    have zt : Takes (cxOf (L2.CX P w) P w K mg base ["word", "found"] "read_number" (defScope st_read_number) (He.fAd K ("read_number", none)) cdv A0 outer s H E) (fun cls d _ H => E cls d H) := takes_of rfl rfl rfl rfl
    exact ⟨rdS (rc PR K (gv K) n fun cls d _ H => E cls d H) F_read_number.body, (pss_cons (zset 1 nd (zcall (A.number_of) hr rfl T.g_number_of zpD (pa_cons (pv 0) (pa_nil)))) (pss_cons (ps_if (pt_cmpR (z_isN hu) (pv 1) (pe_non) (nomark _)) (pss_one (ps_raise rfl zt (pmk_own PySem.F.excBase_ValueError (He.exc_ok T.x_NoPaper).1 T.g_NoPaper (He.exc_ok T.x_NoPaper).2.1 (raises_own (He.exc_ok T.x_NoPaper).2.2.1 (He.exc_ok T.x_NoPaper).2.2.2) rfl))) (pss_nil)) (pss_one (ps_ret (pv 1))))), body_ok (facts T) fn_read_number rfl h⟩
theorem ok_read_numbers {P : Program} {w : World} {K : PySem.W.Frag} {mg : Str → Option Value} {base : Heap} {n : Nat} (T : HF K mg) (A : AL P w K mg base n) {fd : FuncData} (F : FN_read_numbers K fd) : FnOk P w K mg base (L2.CX P w) (2 * (n + 1)) (He.fAd K ("read_numbers", none)) fd ["text"] (spR PR K (n + 1) "read_numbers") :=
  F.ok (k := 2 * n + 1) sc_read_numbers (fun _ _ _ _ h => spR_len fn_read_numbers h) fun cdv A0 outer s H vs Q E hr1 h => by
    have hr : Room (2 * n) (A0.deeper (envOfC "read_numbers" (defScope st_read_numbers) s.heap.objs.size (He.fAd K ("read_numbers", none)) cdv)) := hr1.mono (Nat.le_succ _)
    have hu := hr.units
    have nd := sc_read_numbers.nd
    have zo : PassesOwn (model P w) (cxOf (L2.CX P w) P w K mg base ["text", "word"] "read_numbers" (defScope st_read_numbers) (He.fAd K ("read_numbers", none)) cdv A0 outer s H E).A (cxOf (L2.CX P w) P w K mg base ["text", "word"] "read_numbers" (defScope st_read_numbers) (He.fAd K ("read_numbers", none)) cdv A0 outer s H E).env (cxOf (L2.CX P w) P w K mg base ["text", "word"] "read_numbers" (defScope st_read_numbers) (He.fAd K ("read_numbers", none)) cdv A0 outer s H E).xe := passes_of rfl
    have zt : Takes (cxOf (L2.CX P w) P w K mg base ["text", "word"] "read_numbers" (defScope st_read_numbers) (He.fAd K ("read_numbers", none)) cdv A0 outer s H E) (fun cls d _ H => E cls d H) := takes_of rfl rfl rfl rfl
    exact ⟨rdS (rc PR K (gv K) n fun cls d _ H => E cls d H) F_read_numbers.body, (pss_cons (ps_if (pt_cmpR (z_eq hu) (pv 0) (pe_str) (nomark _)) (pss_one (ps_ret (pe_lst (pa_nil)))) (pss_nil)) (pss_one (ps_ret (pe_lcX (own := [("word", 1)]) rfl rfl (takes_of rfl rfl rfl rfl) rfl nd (zi_seq (zm_split (pv 0) (pe_str))) (blkOk_by (own := [("word", 1)]) (by kernel_rfl)) (fun _ _ _ _ _ => znm 1 nd) (fun _ _ _ _ _ => pts_nil) (fun _ _ _ _ _ _ _ hz => zcall (A.read_number) hr rfl T.g_read_number hz (pa_cons (pv 1) (pa_nil))))))), body_ok (facts T) fn_read_numbers rfl h⟩
theorem ok_read_paper {P : Program} {w : World} {K : PySem.W.Frag} {mg : Str → Option Value} {base : Heap} {n : Nat} (T : HF K mg) (A : AL P w K mg base n) {fd : FuncData} (F : FN_read_paper K fd) : FnOk P w K mg base (L2.CX P w) (2 * (n + 1)) (He.fAd K ("read_paper", none)) fd ["text"] (spR PR K (n + 1) "read_paper") :=
  F.ok (k := 2 * n + 1) sc_read_paper (fun _ _ _ _ h => spR_len fn_read_paper h) fun cdv A0 outer s H vs Q E hr1 h => by
    have hr : Room (2 * n) (A0.deeper (envOfC "read_paper" (defScope st_read_paper) s.heap.objs.size (He.fAd K ("read_paper", none)) cdv)) := hr1.mono (Nat.le_succ _)
    have hu := hr.units
    have nd := sc_read_paper.nd
    have zo : PassesOwn (model P w) (cxOf (L2.CX P w) P w K mg base ["text", "parts", "place", "numbers", "way"] "read_paper" (defScope st_read_paper) (He.fAd K ("read_paper", none)) cdv A0 outer s H E).A (cxOf (L2.CX P w) P w K mg base ["text", "parts", "place", "numbers", "way"] "read_paper" (defScope st_read_paper) (He.fAd K ("read_paper", none)) cdv A0 outer s H E).env (cxOf (L2.CX P w) P w K mg base ["text", "parts", "place", "numbers", "way"] "read_paper" (defScope st_read_paper) (He.fAd K ("read_paper", none)) cdv A0 outer s H E).xe := passes_of rfl
    have zt : Takes (cxOf (L2.CX P w) P w K mg base ["text", "parts", "place", "numbers", "way"] "read_paper" (defScope st_read_paper) (He.fAd K ("read_paper", none)) cdv A0 outer s H E) (fun cls d _ H => E cls d H) := takes_of rfl rfl rfl rfl
    exact ⟨rdS (rc PR K (gv K) n fun cls d _ H => E cls d H) F_read_paper.body, (pss_cons (zset 1 nd (zm_split (pv 0) (pe_str))) (pss_cons (ps_if (pt_cmpR (z_ne hu) (zb_len rfl T.b_len (pa_cons (pv 1) (pa_nil))) (pe_int) (nomark _)) (pss_one (ps_raise rfl zt (pmk_own PySem.F.excBase_ValueError (He.exc_ok T.x_NoPaper).1 T.g_NoPaper (He.exc_ok T.x_NoPaper).2.1 (raises_own (He.exc_ok T.x_NoPaper).2.2.1 (He.exc_ok T.x_NoPaper).2.2.2) rfl))) (pss_nil)) (pss_cons (zset 2 nd (zcall (A.read_number) hr rfl T.g_read_number zpD (pa_cons (pe_ix ix_seq (pv 1) (pe_int) (fun _ _ => rfl)) (pa_nil)))) (pss_cons (zset 3 nd (zcall (A.read_numbers) hr rfl T.g_read_numbers zpD (pa_cons (pe_ix ix_seq (pv 1) (pe_int) (fun _ _ => rfl)) (pa_nil)))) (pss_cons (zset 4 nd (zcall (A.read_numbers) hr rfl T.g_read_numbers zpD (pa_cons (pe_ix ix_seq (pv 1) (pe_int) (fun _ _ => rfl)) (pa_nil)))) (pss_cons (ps_if (pt_cmpR (z_gt hu) (zb_len rfl T.b_len (pa_cons (pv 4) (pa_nil))) (pe_int) (nomark _)) (pss_one (ps_raise rfl zt (pmk_own PySem.F.excBase_ValueError (He.exc_ok T.x_NoPaper).1 T.g_NoPaper (He.exc_ok T.x_NoPaper).2.1 (raises_own (He.exc_ok T.x_NoPaper).2.2.1 (He.exc_ok T.x_NoPaper).2.2.2) rfl))) (pss_nil)) (pss_one (ps_ret (pe_tup (pa_cons (pv 2) (pa_cons (pv 3) (pa_cons (pv 4) (pa_nil))))))))))))), body_ok (facts T) fn_read_paper rfl h⟩
theorem ok_l_cell_at {P : Program} {w : World} {K : PySem.W.Frag} {mg : Str → Option Value} {base : Heap} {n : Nat} (T : HF K mg) (A : AL P w K mg base n) {fd : FuncData} (F : FN_l_cell_at K fd) : FnOk P w K mg base (L2.CX P w) (2 * (n + 1)) (He.fAd K ("_law_cell_at", none)) fd ["_law_script", "_law_k"] (spR PR K (n + 1) "_law_cell_at") :=
  F.ok (k := 2 * n + 1) sc_l_cell_at (fun _ _ _ _ h => spR_len fn_l_cell_at h) fun cdv A0 outer s H vs Q E hr1 h => by
    have hr : Room (2 * n) (A0.deeper (envOfC "_law_cell_at" (defScope st_l_cell_at) s.heap.objs.size (He.fAd K ("_law_cell_at", none)) cdv)) := hr1.mono (Nat.le_succ _)
    have hu := hr.units
    have nd := sc_l_cell_at.nd
    have zo : PassesOwn (model P w) (cxOf (L2.CX P w) P w K mg base ["_law_script", "_law_k"] "_law_cell_at" (defScope st_l_cell_at) (He.fAd K ("_law_cell_at", none)) cdv A0 outer s H E).A (cxOf (L2.CX P w) P w K mg base ["_law_script", "_law_k"] "_law_cell_at" (defScope st_l_cell_at) (He.fAd K ("_law_cell_at", none)) cdv A0 outer s H E).env (cxOf (L2.CX P w) P w K mg base ["_law_script", "_law_k"] "_law_cell_at" (defScope st_l_cell_at) (He.fAd K ("_law_cell_at", none)) cdv A0 outer s H E).xe := passes_of rfl
    have zt : Takes (cxOf (L2.CX P w) P w K mg base ["_law_script", "_law_k"] "_law_cell_at" (defScope st_l_cell_at) (He.fAd K ("_law_cell_at", none)) cdv A0 outer s H E) (fun cls d _ H => E cls d H) := takes_of rfl rfl rfl rfl
    exact ⟨rdS (rc PR K (gv K) n fun cls d _ H => E cls d H) F_l_cell_at.body, (pss_cons (ps_if (pt_cmpR (z_lt hu) (pv 1) (zb_len rfl T.b_len (pa_cons (pv 0) (pa_nil))) (nomark _)) (pss_one (ps_ret (pe_ix ix_seq (pv 0) (pv 1) (fun _ _ => rfl)))) (pss_nil)) (pss_one (ps_ret (pe_int)))), body_ok (facts T) fn_l_cell_at rfl h⟩
theorem ok_l_whole {P : Program} {w : World} {K : PySem.W.Frag} {mg : Str → Option Value} {base : Heap} {n : Nat} (T : HF K mg) (A : AL P w K mg base n) {fd : FuncData} (F : FN_l_whole K fd) : FnOk P w K mg base (L2.CX P w) (2 * (n + 1)) (He.fAd K ("_law_whole", none)) fd ["_law_found"] (spR PR K (n + 1) "_law_whole") :=
  F.ok (k := 2 * n + 1) sc_l_whole (fun _ _ _ _ h => spR_len fn_l_whole h) fun cdv A0 outer s H vs Q E hr1 h => by
    have hr : Room (2 * n) (A0.deeper (envOfC "_law_whole" (defScope st_l_whole) s.heap.objs.size (He.fAd K ("_law_whole", none)) cdv)) := hr1.mono (Nat.le_succ _)
    have hu := hr.units
    have nd := sc_l_whole.nd
    have zo : PassesOwn (model P w) (cxOf (L2.CX P w) P w K mg base ["_law_found"] "_law_whole" (defScope st_l_whole) (He.fAd K ("_law_whole", none)) cdv A0 outer s H E).A (cxOf (L2.CX P w) P w K mg base ["_law_found"] "_law_whole" (defScope st_l_whole) (He.fAd K ("_law_whole", none)) cdv A0 outer s H E).env (cxOf (L2.CX P w) P w K mg base ["_law_found"] "_law_whole" (defScope st_l_whole) (He.fAd K ("_law_whole", none)) cdv A0 outer s H E).xe := passes_of rfl
    have zt : Takes (cxOf (L2.CX P w) P w K mg base ["_law_found"] "_law_whole" (defScope st_l_whole) (He.fAd K ("_law_whole", none)) cdv A0 outer s H E) (fun cls d _ H => E cls d H) := takes_of rfl rfl rfl rfl
    exact ⟨rdS (rc PR K (gv K) n fun cls d _ H => E cls d H) F_l_whole.body, (pss_one (ps_ret (pe_and (zisi .int rfl rfl T.b_isinstance rfl T.b_int (pv 0)) (pe_one (pe_not (zisi .bool rfl rfl T.b_isinstance rfl T.b_bool (pv 0))))))), body_ok (facts T) fn_l_whole rfl h⟩
theorem ok_l_number_of {P : Program} {w : World} {K : PySem.W.Frag} {mg : Str → Option Value} {base : Heap} {n : Nat} (T : HF K mg) (A : AL P w K mg base n) {fd : FuncData} (F : FN_l_number_of K fd) : FnOk P w K mg base (L2.CX P w) (2 * (n + 1)) (He.fAd K ("_law_number_of", none)) fd ["_law_word"] (spR PR K (n + 1) "_law_number_of") :=
  F.ok (k := 2 * n + 1) sc_l_number_of (fun _ _ _ _ h => spR_len fn_l_number_of h) fun cdv A0 outer s H vs Q E hr1 h => by
    have hr : Room (2 * n) (A0.deeper (envOfC "_law_number_of" (defScope st_l_number_of) s.heap.objs.size (He.fAd K ("_law_number_of", none)) cdv)) := hr1.mono (Nat.le_succ _)
    have hu := hr.units
    have nd := sc_l_number_of.nd
    have zo : PassesOwn (model P w) (cxOf (L2.CX P w) P w K mg base ["_law_word", "_law_sign", "_law_number_here"] "_law_number_of" (defScope st_l_number_of) (He.fAd K ("_law_number_of", none)) cdv A0 outer s H E).A (cxOf (L2.CX P w) P w K mg base ["_law_word", "_law_sign", "_law_number_here"] "_law_number_of" (defScope st_l_number_of) (He.fAd K ("_law_number_of", none)) cdv A0 outer s H E).env (cxOf (L2.CX P w) P w K mg base ["_law_word", "_law_sign", "_law_number_here"] "_law_number_of" (defScope st_l_number_of) (He.fAd K ("_law_number_of", none)) cdv A0 outer s H E).xe := passes_of rfl
    have zt : Takes (cxOf (L2.CX P w) P w K mg base ["_law_word", "_law_sign", "_law_number_here"] "_law_number_of" (defScope st_l_number_of) (He.fAd K ("_law_number_of", none)) cdv A0 outer s H E) (fun cls d _ H => E cls d H) := takes_of rfl rfl rfl rfl
    exact ⟨rdS (rc PR K (gv K) n fun cls d _ H => E cls d H) F_l_number_of.body, (pss_cons (ps_if (PW.pt (pw_or (pt_cmpR (z_eq hu) (pv 0) (pe_str) (nomark _)) (pw_or (pt_cmpR (z_gt hu) (zb_len rfl T.b_len (pa_cons (pv 0) (pa_nil))) (pe_int) (nomark _)) (pw_or1 (PW.pt (pw_and (pt_cmpR (z_gt hu) (zb_len rfl T.b_len (pa_cons (pv 0) (pa_nil))) (pe_int) (nomark _)) (pw_and1 (pt_cmpR (z_eq hu) (pe_ix ix_seq (pv 0) (pe_int) (fun _ _ => rfl)) (pe_str) (nomark _))))))))) (pss_one (ps_ret (pe_un un_neg (pe_int)))) (pss_nil)) (pss_cons (ps_for zo rfl (zi_seq (pv 0)) (znm 1 nd) (pss_one (ps_if (pt_cmpR (z_nin hu) (pv 1) (pe_str) (by rfl)) (pss_one (ps_ret (pe_un un_neg (pe_int)))) (pss_nil)))) (pss_cons (zset 2 nd (zb_int rfl T.b_int (pa_cons (pv 0) (pa_nil)))) (pss_cons (ps_if (pt_cmpR (z_lt hu) (pv 2) (pe_op z_pow (pe_int) (pe_int)) (nomark _)) (pss_one (ps_ret (pv 2))) (pss_nil)) (pss_one (ps_ret (pe_un un_neg (pe_int)))))))), body_ok (facts T) fn_l_number_of rfl h⟩
theorem ok_l_text {P : Program} {w : World} {K : PySem.W.Frag} {mg : Str → Option Value} {base : Heap} {n : Nat} (T : HF K mg) (A : AL P w K mg base n) {fd : FuncData} (F : FN_l_text K fd) : FnOk P w K mg base (L2.CX P w) (2 * (n + 1)) (He.fAd K ("_law_text", none)) fd ["_law_paper"] (spR PR K (n + 1) "_law_text") :=
  F.ok (k := 2 * n + 1) sc_l_text (fun _ _ _ _ h => spR_len fn_l_text h) fun cdv A0 outer s H vs Q E hr1 h => by
    have hr : Room (2 * n) (A0.deeper (envOfC "_law_text" (defScope st_l_text) s.heap.objs.size (He.fAd K ("_law_text", none)) cdv)) := hr1.mono (Nat.le_succ _)
    have hu := hr.units
    have nd := sc_l_text.nd
    have zo : PassesOwn (model P w) (cxOf (L2.CX P w) P w K mg base ["_law_paper", "_law_parts", "_law_numbers", "_law_number_here"] "_law_text" (defScope st_l_text) (He.fAd K ("_law_text", none)) cdv A0 outer s H E).A (cxOf (L2.CX P w) P w K mg base ["_law_paper", "_law_parts", "_law_numbers", "_law_number_here"] "_law_text" (defScope st_l_text) (He.fAd K ("_law_text", none)) cdv A0 outer s H E).env (cxOf (L2.CX P w) P w K mg base ["_law_paper", "_law_parts", "_law_numbers", "_law_number_here"] "_law_text" (defScope st_l_text) (He.fAd K ("_law_text", none)) cdv A0 outer s H E).xe := passes_of rfl
    have zt : Takes (cxOf (L2.CX P w) P w K mg base ["_law_paper", "_law_parts", "_law_numbers", "_law_number_here"] "_law_text" (defScope st_l_text) (He.fAd K ("_law_text", none)) cdv A0 outer s H E) (fun cls d _ H => E cls d H) := takes_of rfl rfl rfl rfl
    exact ⟨rdS (rc PR K (gv K) n fun cls d _ H => E cls d H) F_l_text.body, (pss_cons (zset 1 nd (pe_lst (pa_cons (zb_str rfl T.b_str (pa_cons (pe_ix ix_seq (pv 0) (pe_int) (fun _ _ => rfl)) (pa_nil))) (pa_nil)))) (pss_cons (ps_for zo rfl (zi_seq (pe_slice z_slice (pv 0) (po_some (pe_int)) po_none)) (znm 2 nd) (pss_one (ps_expr (zm_append (pv 1) (pa_cons (zm_join (pe_str) (pe_lc (own := [("_law_number_here", 3)]) rfl nd (zi_seq (pv 2)) (blkOk_by (own := [("_law_number_here", 3)]) (by kernel_rfl)) (fun _ _ _ _ _ => znm 3 nd) (fun _ _ _ _ _ => pts_nil) (fun _ _ _ _ _ => zb_str rfl T.b_str (pa_cons (pv 3) (pa_nil))))) (pa_nil)))))) (pss_one (ps_ret (zm_join (pe_str) (pv 1)))))), body_ok (facts T) fn_l_text rfl h⟩
theorem ok_l_numbers_of {P : Program} {w : World} {K : PySem.W.Frag} {mg : Str → Option Value} {base : Heap} {n : Nat} (T : HF K mg) (A : AL P w K mg base n) {fd : FuncData} (F : FN_l_numbers_of K fd) : FnOk P w K mg base (L2.CX P w) (2 * (n + 1)) (He.fAd K ("_law_numbers_of", none)) fd ["_law_part"] (spR PR K (n + 1) "_law_numbers_of") :=
  F.ok (k := 2 * n + 1) sc_l_numbers_of (fun _ _ _ _ h => spR_len fn_l_numbers_of h) fun cdv A0 outer s H vs Q E hr1 h => by
    have hr : Room (2 * n) (A0.deeper (envOfC "_law_numbers_of" (defScope st_l_numbers_of) s.heap.objs.size (He.fAd K ("_law_numbers_of", none)) cdv)) := hr1.mono (Nat.le_succ _)
    have hu := hr.units
    have nd := sc_l_numbers_of.nd
    have zo : PassesOwn (model P w) (cxOf (L2.CX P w) P w K mg base ["_law_part", "_law_found", "_law_word"] "_law_numbers_of" (defScope st_l_numbers_of) (He.fAd K ("_law_numbers_of", none)) cdv A0 outer s H E).A (cxOf (L2.CX P w) P w K mg base ["_law_part", "_law_found", "_law_word"] "_law_numbers_of" (defScope st_l_numbers_of) (He.fAd K ("_law_numbers_of", none)) cdv A0 outer s H E).env (cxOf (L2.CX P w) P w K mg base ["_law_part", "_law_found", "_law_word"] "_law_numbers_of" (defScope st_l_numbers_of) (He.fAd K ("_law_numbers_of", none)) cdv A0 outer s H E).xe := passes_of rfl
    have zt : Takes (cxOf (L2.CX P w) P w K mg base ["_law_part", "_law_found", "_law_word"] "_law_numbers_of" (defScope st_l_numbers_of) (He.fAd K ("_law_numbers_of", none)) cdv A0 outer s H E) (fun cls d _ H => E cls d H) := takes_of rfl rfl rfl rfl
    exact ⟨rdS (rc PR K (gv K) n fun cls d _ H => E cls d H) F_l_numbers_of.body, (pss_cons (zset 1 nd (pe_lst (pa_nil))) (pss_cons (ps_if (pt_cmpR (z_eq hu) (pv 0) (pe_str) (nomark _)) (pss_one (ps_ret (pv 1))) (pss_nil)) (pss_cons (ps_for zo rfl (zi_seq (zm_split (pv 0) (pe_str))) (znm 2 nd) (pss_one (ps_expr (zm_append (pv 1) (pa_cons (zcall (A.l_number_of) hr rfl T.g__law_number_of zpD (pa_cons (pv 2) (pa_nil))) (pa_nil)))))) (pss_one (ps_ret (pv 1)))))), body_ok (facts T) fn_l_numbers_of rfl h⟩
theorem ok_l_paper_of {P : Program} {w : World} {K : PySem.W.Frag} {mg : Str → Option Value} {base : Heap} {n : Nat} (T : HF K mg) (A : AL P w K mg base n) {fd : FuncData} (F : FN_l_paper_of K fd) : FnOk P w K mg base (L2.CX P w) (2 * (n + 1)) (He.fAd K ("_law_paper_of", none)) fd ["_law_text_here"] (spR PR K (n + 1) "_law_paper_of") :=
  F.ok (k := 2 * n + 1) sc_l_paper_of (fun _ _ _ _ h => spR_len fn_l_paper_of h) fun cdv A0 outer s H vs Q E hr1 h => by
    have hr : Room (2 * n) (A0.deeper (envOfC "_law_paper_of" (defScope st_l_paper_of) s.heap.objs.size (He.fAd K ("_law_paper_of", none)) cdv)) := hr1.mono (Nat.le_succ _)
    have hu := hr.units
    have nd := sc_l_paper_of.nd
    have zo : PassesOwn (model P w) (cxOf (L2.CX P w) P w K mg base ["_law_text_here", "_law_parts", "_law_place", "_law_numbers", "_law_way"] "_law_paper_of" (defScope st_l_paper_of) (He.fAd K ("_law_paper_of", none)) cdv A0 outer s H E).A (cxOf (L2.CX P w) P w K mg base ["_law_text_here", "_law_parts", "_law_place", "_law_numbers", "_law_way"] "_law_paper_of" (defScope st_l_paper_of) (He.fAd K ("_law_paper_of", none)) cdv A0 outer s H E).env (cxOf (L2.CX P w) P w K mg base ["_law_text_here", "_law_parts", "_law_place", "_law_numbers", "_law_way"] "_law_paper_of" (defScope st_l_paper_of) (He.fAd K ("_law_paper_of", none)) cdv A0 outer s H E).xe := passes_of rfl
    have zt : Takes (cxOf (L2.CX P w) P w K mg base ["_law_text_here", "_law_parts", "_law_place", "_law_numbers", "_law_way"] "_law_paper_of" (defScope st_l_paper_of) (He.fAd K ("_law_paper_of", none)) cdv A0 outer s H E) (fun cls d _ H => E cls d H) := takes_of rfl rfl rfl rfl
    exact ⟨rdS (rc PR K (gv K) n fun cls d _ H => E cls d H) F_l_paper_of.body, (pss_cons (zset 1 nd (zm_split (pv 0) (pe_str))) (pss_cons (ps_if (pt_cmpR (z_ne hu) (zb_len rfl T.b_len (pa_cons (pv 1) (pa_nil))) (pe_int) (nomark _)) (pss_one (ps_ret (pe_non))) (pss_nil)) (pss_cons (zset 2 nd (zcall (A.l_number_of) hr rfl T.g__law_number_of zpD (pa_cons (pe_ix ix_seq (pv 1) (pe_int) (fun _ _ => rfl)) (pa_nil)))) (pss_cons (zset 3 nd (zcall (A.l_numbers_of) hr rfl T.g__law_numbers_of zpD (pa_cons (pe_ix ix_seq (pv 1) (pe_int) (fun _ _ => rfl)) (pa_nil)))) (pss_cons (zset 4 nd (zcall (A.l_numbers_of) hr rfl T.g__law_numbers_of zpD (pa_cons (pe_ix ix_seq (pv 1) (pe_int) (fun _ _ => rfl)) (pa_nil)))) (pss_cons (ps_if (PW.pt (pw_or (pt_cmpR (z_lt hu) (pv 2) (pe_int) (nomark _)) (pw_or (pt_cmpR (z_lt hu) (zb_minD rfl rfl T.b_min (pv 3) (pe_int)) (pe_int) (nomark _)) (pw_or (pt_cmpR (z_lt hu) (zb_minD rfl rfl T.b_min (pv 4) (pe_int)) (pe_int) (nomark _)) (pw_or1 (pt_cmpR (z_gt hu) (zb_len rfl T.b_len (pa_cons (pv 4) (pa_nil))) (pe_int) (nomark _))))))) (pss_one (ps_ret (pe_non))) (pss_nil)) (pss_one (ps_ret (pe_tup (pa_cons (pv 2) (pa_cons (pv 3) (pa_cons (pv 4) (pa_nil))))))))))))), body_ok (facts T) fn_l_paper_of rfl h⟩
theorem ok_l_is {P : Program} {w : World} {K : PySem.W.Frag} {mg : Str → Option Value} {base : Heap} {n : Nat} (T : HF K mg) (A : AL P w K mg base n) {fd : FuncData} (F : FN_l_is K fd) : FnOk P w K mg base (L2.CX P w) (2 * (n + 1)) (He.fAd K ("_law_is", none)) fd ["_law_found", "_law_due"] (spR PR K (n + 1) "_law_is") :=
  F.ok (k := 2 * n + 1) sc_l_is (fun _ _ _ _ h => spR_len fn_l_is h) fun cdv A0 outer s H vs Q E hr1 h => by
    have hr : Room (2 * n) (A0.deeper (envOfC "_law_is" (defScope st_l_is) s.heap.objs.size (He.fAd K ("_law_is", none)) cdv)) := hr1.mono (Nat.le_succ _)
    have hu := hr.units
    have nd := sc_l_is.nd
    have zo : PassesOwn (model P w) (cxOf (L2.CX P w) P w K mg base ["_law_found", "_law_due", "_law_part", "_law_number_here"] "_law_is" (defScope st_l_is) (He.fAd K ("_law_is", none)) cdv A0 outer s H E).A (cxOf (L2.CX P w) P w K mg base ["_law_found", "_law_due", "_law_part", "_law_number_here"] "_law_is" (defScope st_l_is) (He.fAd K ("_law_is", none)) cdv A0 outer s H E).env (cxOf (L2.CX P w) P w K mg base ["_law_found", "_law_due", "_law_part", "_law_number_here"] "_law_is" (defScope st_l_is) (He.fAd K ("_law_is", none)) cdv A0 outer s H E).xe := passes_of rfl
    have zt : Takes (cxOf (L2.CX P w) P w K mg base ["_law_found", "_law_due", "_law_part", "_law_number_here"] "_law_is" (defScope st_l_is) (He.fAd K ("_law_is", none)) cdv A0 outer s H E) (fun cls d _ H => E cls d H) := takes_of rfl rfl rfl rfl
    exact ⟨rdS (rc PR K (gv K) n fun cls d _ H => E cls d H) F_l_is.body, (pss_cons (ps_if (PW.pt (pw_or (pt_not (ztru (zisi .tuple rfl rfl T.b_isinstance rfl T.b_tuple (pv 0)))) (pw_or (pt_cmpR (z_ne hu) (zb_len rfl T.b_len (pa_cons (pv 0) (pa_nil))) (pe_int) (nomark _)) (pw_or1 (pt_not (ztru (zcall (A.l_whole) hr rfl T.g__law_whole zpD (pa_cons (pe_ix ix_seq (pv 0) (pe_int) (fun _ _ => rfl)) (pa_nil))))))))) (pss_one (ps_ret (pe_bl))) (pss_nil)) (pss_cons (ps_for zo rfl (zi_seq (pe_slice z_slice (pv 0) (po_some (pe_int)) po_none)) (znm 2 nd) (pss_cons (ps_if (pt_not (ztru (zisi .list rfl rfl T.b_isinstance rfl T.b_list (pv 2)))) (pss_one (ps_ret (pe_bl))) (pss_nil)) (pss_one (ps_for zo rfl (zi_seq (pv 2)) (znm 3 nd) (pss_one (ps_if (pt_not (ztru (zcall (A.l_whole) hr rfl T.g__law_whole zpD (pa_cons (pv 3) (pa_nil))))) (pss_one (ps_ret (pe_bl))) (pss_nil))))))) (pss_one (ps_ret (pe_cmpR (z_eq hu) (pv 0) (pv 1) (nomark _)))))), body_ok (facts T) fn_l_is rfl h⟩
theorem ok_l_refused_by_any {P : Program} {w : World} {K : PySem.W.Frag} {mg : Str → Option Value} {base : Heap} {n : Nat} (T : HF K mg) (A : AL P w K mg base n) {fd : FuncData} (F : FN_l_refused_by_any K fd) : FnOk P w K mg base (L2.CX P w) (2 * (n + 1)) (He.fAd K ("_law_refused_by_any", none)) fd ["_law_text_here"] (spR PR K (n + 1) "_law_refused_by_any") :=
  F.ok (k := 2 * n + 1) sc_l_refused_by_any (fun _ _ _ _ h => spR_len fn_l_refused_by_any h) fun cdv A0 outer s H vs Q E hr1 h => by
    have hr : Room (2 * n) (A0.deeper (envOfC "_law_refused_by_any" (defScope st_l_refused_by_any) s.heap.objs.size (He.fAd K ("_law_refused_by_any", none)) cdv)) := hr1.mono (Nat.le_succ _)
    have hu := hr.units
    have nd := sc_l_refused_by_any.nd
    have zo : PassesOwn (model P w) (cxOf (L2.CX P w) P w K mg base ["_law_text_here", "_law_kinds", "e"] "_law_refused_by_any" (defScope st_l_refused_by_any) (He.fAd K ("_law_refused_by_any", none)) cdv A0 outer s H E).A (cxOf (L2.CX P w) P w K mg base ["_law_text_here", "_law_kinds", "e"] "_law_refused_by_any" (defScope st_l_refused_by_any) (He.fAd K ("_law_refused_by_any", none)) cdv A0 outer s H E).env (cxOf (L2.CX P w) P w K mg base ["_law_text_here", "_law_kinds", "e"] "_law_refused_by_any" (defScope st_l_refused_by_any) (He.fAd K ("_law_refused_by_any", none)) cdv A0 outer s H E).xe := passes_of rfl
    have zt : Takes (cxOf (L2.CX P w) P w K mg base ["_law_text_here", "_law_kinds", "e"] "_law_refused_by_any" (defScope st_l_refused_by_any) (He.fAd K ("_law_refused_by_any", none)) cdv A0 outer s H E) (fun cls d _ H => E cls d H) := takes_of rfl rfl rfl rfl
    exact ⟨rdS (rc PR K (gv K) n fun cls d _ H => E cls d H) F_l_refused_by_any.body, (pss_cons (zset 1 nd (pe_lst (pa_nil))) (pss_cons (ztryAs (i := 2) rfl zt nd rfl T.g_HouseError (fun W pn xe zt zo => pss_one (ps_expr (zcall (A.read_paper) hr rfl T.g_read_paper (fun σ => passAt zt σ) (pa_cons (pv 0) (pa_nil))))) (fun a oe cls d pn kk hz hf => pss_cons (zset 1 nd (pe_lst (pa_cons (zisxB rfl hz hf rfl T.b_isinstance rfl rfl T.b_ValueError (by decide +kernel) (by decide) (pv 2)) (pa_cons (zisx rfl hz hf rfl T.b_isinstance rfl T.g_NoPaper (pv 2)) (pa_cons (zisx rfl hz hf rfl T.b_isinstance rfl T.g_NoClash (pv 2)) (pa_cons (zisx rfl hz hf rfl T.b_isinstance rfl T.g_NoRow (pv 2)) (pa_nil))))))) (pss_cons (zset 1 nd (pe_op z_add (pv 1) (pe_lst (pa_cons (zisx rfl hz hf rfl T.b_isinstance rfl T.g_NoCode (pv 2)) (pa_cons (zisx rfl hz hf rfl T.b_isinstance rfl T.g_NoSlot (pv 2)) (pa_cons (zisx rfl hz hf rfl T.b_isinstance rfl T.g_Taken (pv 2)) (pa_cons (zisx rfl hz hf rfl T.b_isinstance rfl T.g_TooMuch (pv 2)) (pa_nil)))))))) (pss_cons (zset 1 nd (pe_op z_add (pv 1) (pe_lst (pa_cons (zisx rfl hz hf rfl T.b_isinstance rfl T.g_NoNumber (pv 2)) (pa_cons (zisx rfl hz hf rfl T.b_isinstance rfl T.g_NoAccount (pv 2)) (pa_cons (zisx rfl hz hf rfl T.b_isinstance rfl T.g_NoLimit (pv 2)) (pa_nil))))))) (pss_one (zset 1 nd (pe_op z_add (pv 1) (pe_lst (pa_cons (zisx rfl hz hf rfl T.b_isinstance rfl T.g_PoorPurse (pv 2)) (pa_cons (zisx rfl hz hf rfl T.b_isinstance rfl T.g_PoorCoin (pv 2)) (pa_nil))))))))))) (pss_one (ps_ret (pe_cmpR (z_eq hu) (pv 1) (pe_op z_add (pe_lst (pa_cons (pe_bl) (pa_cons (pe_bl) (pa_nil)))) (pe_op z_mul (pe_lst (pa_cons (pe_bl) (pa_nil))) (pe_int))) (nomark _)))))), body_ok (facts T) fn_l_refused_by_any rfl h⟩
theorem ok_l_read {P : Program} {w : World} {K : PySem.W.Frag} {mg : Str → Option Value} {base : Heap} {n : Nat} (T : HF K mg) (A : AL P w K mg base n) {fd : FuncData} (F : FN_l_read K fd) : FnOk P w K mg base (L2.CX P w) (2 * (n + 1)) (He.fAd K ("_law_read", none)) fd ["_law_text_here"] (spR PR K (n + 1) "_law_read") :=
  F.ok (k := 2 * n + 1) sc_l_read (fun _ _ _ _ h => spR_len fn_l_read h) fun cdv A0 outer s H vs Q E hr1 h => by
    have hr : Room (2 * n) (A0.deeper (envOfC "_law_read" (defScope st_l_read) s.heap.objs.size (He.fAd K ("_law_read", none)) cdv)) := hr1.mono (Nat.le_succ _)
    have hu := hr.units
    have nd := sc_l_read.nd
    have zo : PassesOwn (model P w) (cxOf (L2.CX P w) P w K mg base ["_law_text_here", "_law_found", "_law_refused", "_law_due"] "_law_read" (defScope st_l_read) (He.fAd K ("_law_read", none)) cdv A0 outer s H E).A (cxOf (L2.CX P w) P w K mg base ["_law_text_here", "_law_found", "_law_refused", "_law_due"] "_law_read" (defScope st_l_read) (He.fAd K ("_law_read", none)) cdv A0 outer s H E).env (cxOf (L2.CX P w) P w K mg base ["_law_text_here", "_law_found", "_law_refused", "_law_due"] "_law_read" (defScope st_l_read) (He.fAd K ("_law_read", none)) cdv A0 outer s H E).xe := passes_of rfl
    have zt : Takes (cxOf (L2.CX P w) P w K mg base ["_law_text_here", "_law_found", "_law_refused", "_law_due"] "_law_read" (defScope st_l_read) (He.fAd K ("_law_read", none)) cdv A0 outer s H E) (fun cls d _ H => E cls d H) := takes_of rfl rfl rfl rfl
    exact ⟨rdS (rc PR K (gv K) n fun cls d _ H => E cls d H) F_l_read.body, (pss_cons (zset 1 nd (pe_non)) (pss_cons (zset 2 nd (pe_bl)) (pss_cons (ztry rfl zt rfl T.g_NoPaper (fun W pn xe zt zo => pss_one (zset 1 nd (zcall (A.read_paper) hr rfl T.g_read_paper (fun σ => passAt zt σ) (pa_cons (pv 0) (pa_nil))))) (fun a oe pn => pss_one (zset 2 nd (pe_bl)))) (pss_cons (zset 3 nd (zcall (A.l_paper_of) hr rfl T.g__law_paper_of zpD (pa_cons (pv 0) (pa_nil)))) (pss_cons (ps_if (pt_cmpR (z_isN hu) (pv 3) (pe_non) (nomark _)) (pss_one (ps_ret (pe_and (pv 2) (pe_one (zcall (A.l_refused_by_any) hr rfl T.g__law_refused_by_any zpD (pa_cons (pv 0) (pa_nil))))))) (pss_nil)) (pss_one (ps_ret (pe_and (pe_not (pv 2)) (pe_one (zcall (A.l_is) hr rfl T.g__law_is zpD (pa_cons (pv 1) (pa_cons (pv 3) (pa_nil))))))))))))), body_ok (facts T) fn_l_read rfl h⟩
theorem ok_l_spoilt {P : Program} {w : World} {K : PySem.W.Frag} {mg : Str → Option Value} {base : Heap} {n : Nat} (T : HF K mg) (A : AL P w K mg base n) {fd : FuncData} (F : FN_l_spoilt K fd) : FnOk P w K mg base (L2.CX P w) (2 * (n + 1)) (He.fAd K ("_law_spoilt", none)) fd ["_law_text_here", "_law_kind", "_law_at", "_law_cell"] (spR PR K (n + 1) "_law_spoilt") :=
  F.ok (k := 2 * n + 1) sc_l_spoilt (fun _ _ _ _ h => spR_len fn_l_spoilt h) fun cdv A0 outer s H vs Q E hr1 h => by
    have hr : Room (2 * n) (A0.deeper (envOfC "_law_spoilt" (defScope st_l_spoilt) s.heap.objs.size (He.fAd K ("_law_spoilt", none)) cdv)) := hr1.mono (Nat.le_succ _)
    have hu := hr.units
    have nd := sc_l_spoilt.nd
    have zo : PassesOwn (model P w) (cxOf (L2.CX P w) P w K mg base ["_law_text_here", "_law_kind", "_law_at", "_law_cell", "_law_signs", "_law_sign"] "_law_spoilt" (defScope st_l_spoilt) (He.fAd K ("_law_spoilt", none)) cdv A0 outer s H E).A (cxOf (L2.CX P w) P w K mg base ["_law_text_here", "_law_kind", "_law_at", "_law_cell", "_law_signs", "_law_sign"] "_law_spoilt" (defScope st_l_spoilt) (He.fAd K ("_law_spoilt", none)) cdv A0 outer s H E).env (cxOf (L2.CX P w) P w K mg base ["_law_text_here", "_law_kind", "_law_at", "_law_cell", "_law_signs", "_law_sign"] "_law_spoilt" (defScope st_l_spoilt) (He.fAd K ("_law_spoilt", none)) cdv A0 outer s H E).xe := passes_of rfl
    have zt : Takes (cxOf (L2.CX P w) P w K mg base ["_law_text_here", "_law_kind", "_law_at", "_law_cell", "_law_signs", "_law_sign"] "_law_spoilt" (defScope st_l_spoilt) (He.fAd K ("_law_spoilt", none)) cdv A0 outer s H E) (fun cls d _ H => E cls d H) := takes_of rfl rfl rfl rfl
    exact ⟨rdS (rc PR K (gv K) n fun cls d _ H => E cls d H) F_l_spoilt.body, (pss_cons (zset 4 nd (pe_str)) (pss_cons (zset 5 nd (pe_ix ix_seq (pv 4) (pe_op z_mod (pv 3) (zb_len rfl T.b_len (pa_cons (pv 4) (pa_nil)))) (fun _ _ => rfl))) (pss_cons (zset 2 nd (pe_op z_mod (pv 2) (pe_op z_add (zb_len rfl T.b_len (pa_cons (pv 0) (pa_nil))) (pe_int)))) (pss_cons (ps_if (pt_cmpR (z_eq hu) (pv 1) (pe_int) (nomark _)) (pss_one (ps_ret (pe_op z_add (pe_op z_add (pe_slice z_slice (pv 0) po_none (po_some (pv 2))) (pv 5)) (pe_slice z_slice (pv 0) (po_some (pv 2)) po_none)))) (pss_nil)) (pss_cons (ps_if (pt_cmpR (z_eq hu) (pv 1) (pe_int) (nomark _)) (pss_one (ps_ret (pe_op z_add (pe_slice z_slice (pv 0) po_none (po_some (pv 2))) (pe_slice z_slice (pv 0) (po_some (pe_op z_add (pv 2) (pe_int))) po_none)))) (pss_nil)) (pss_cons (ps_if (pt_cmpR (z_eq hu) (pv 1) (pe_int) (nomark _)) (pss_one (ps_ret (pe_op z_add (pe_op z_add (pe_slice z_slice (pv 0) po_none (po_some (pv 2))) (pv 5)) (pe_slice z_slice (pv 0) (po_some (pe_op z_add (pv 2) (pe_int))) po_none)))) (pss_nil)) (pss_one (ps_ret (pe_op z_add (pe_op z_add (pe_slice z_slice (pv 0) po_none (po_some (pv 2))) (pe_str)) (pe_slice z_slice (pv 0) (po_some (pv 2)) po_none)))))))))), body_ok (facts T) fn_l_spoilt rfl h⟩
theorem ok_l_number {P : Program} {w : World} {K : PySem.W.Frag} {mg : Str → Option Value} {base : Heap} {n : Nat} (T : HF K mg) (A : AL P w K mg base n) {fd : FuncData} (F : FN_l_number K fd) : FnOk P w K mg base (L2.CX P w) (2 * (n + 1)) (He.fAd K ("_law_number", none)) fd ["_law_cell"] (spR PR K (n + 1) "_law_number") :=
  F.ok (k := 2 * n + 1) sc_l_number (fun _ _ _ _ h => spR_len fn_l_number h) fun cdv A0 outer s H vs Q E hr1 h => by
    have hr : Room (2 * n) (A0.deeper (envOfC "_law_number" (defScope st_l_number) s.heap.objs.size (He.fAd K ("_law_number", none)) cdv)) := hr1.mono (Nat.le_succ _)
    have hu := hr.units
    have nd := sc_l_number.nd
    have zo : PassesOwn (model P w) (cxOf (L2.CX P w) P w K mg base ["_law_cell"] "_law_number" (defScope st_l_number) (He.fAd K ("_law_number", none)) cdv A0 outer s H E).A (cxOf (L2.CX P w) P w K mg base ["_law_cell"] "_law_number" (defScope st_l_number) (He.fAd K ("_law_number", none)) cdv A0 outer s H E).env (cxOf (L2.CX P w) P w K mg base ["_law_cell"] "_law_number" (defScope st_l_number) (He.fAd K ("_law_number", none)) cdv A0 outer s H E).xe := passes_of rfl
    have zt : Takes (cxOf (L2.CX P w) P w K mg base ["_law_cell"] "_law_number" (defScope st_l_number) (He.fAd K ("_law_number", none)) cdv A0 outer s H E) (fun cls d _ H => E cls d H) := takes_of rfl rfl rfl rfl
    exact ⟨rdS (rc PR K (gv K) n fun cls d _ H => E cls d H) F_l_number.body, (pss_cons (ps_if (pt_cmpR (z_eq hu) (pe_op z_mod (pv 0) (pe_int)) (pe_int) (nomark _)) (pss_one (ps_ret (pe_op z_mod (pe_op z_fdiv (pv 0) (pe_int)) (pe_int)))) (pss_nil)) (pss_one (ps_ret (pe_op z_mod (pe_op z_fdiv (pv 0) (pe_int)) (pe_op z_pow (pe_int) (pe_int)))))), body_ok (facts T) fn_l_number rfl h⟩
theorem ok_law {P : Program} {w : World} {K : PySem.W.Frag} {mg : Str → Option Value} {base : Heap} {n : Nat} (T : HF K mg) (A : AL P w K mg base n) {fd : FuncData} (F : FN_law K fd) : FnOk P w K mg base (L2.CX P w) (2 * (n + 1)) (He.fAd K ("law", none)) fd ["_law_script"] (spR PR K (n + 1) "law") :=
  F.ok (k := 2 * n + 1) sc_law (fun _ _ _ _ h => spR_len fn_law h) fun cdv A0 outer s H vs Q E hr1 h => by
    have hr : Room (2 * n) (A0.deeper (envOfC "law" (defScope st_law) s.heap.objs.size (He.fAd K ("law", none)) cdv)) := hr1.mono (Nat.le_succ _)
    have hu := hr.units
    have nd := sc_law.nd
    have zo : PassesOwn (model P w) (cxOf (L2.CX P w) P w K mg base ["_law_script", "_law_cells", "_law_cut", "_law_paper", "_law_handed", "_law_text_here", "_law_spot", "_law_kind", "_law_many", "_law_cell", "_law_k"] "law" (defScope st_law) (He.fAd K ("law", none)) cdv A0 outer s H E).A (cxOf (L2.CX P w) P w K mg base ["_law_script", "_law_cells", "_law_cut", "_law_paper", "_law_handed", "_law_text_here", "_law_spot", "_law_kind", "_law_many", "_law_cell", "_law_k"] "law" (defScope st_law) (He.fAd K ("law", none)) cdv A0 outer s H E).env (cxOf (L2.CX P w) P w K mg base ["_law_script", "_law_cells", "_law_cut", "_law_paper", "_law_handed", "_law_text_here", "_law_spot", "_law_kind", "_law_many", "_law_cell", "_law_k"] "law" (defScope st_law) (He.fAd K ("law", none)) cdv A0 outer s H E).xe := passes_of rfl
    have zt : Takes (cxOf (L2.CX P w) P w K mg base ["_law_script", "_law_cells", "_law_cut", "_law_paper", "_law_handed", "_law_text_here", "_law_spot", "_law_kind", "_law_many", "_law_cell", "_law_k"] "law" (defScope st_law) (He.fAd K ("law", none)) cdv A0 outer s H E) (fun cls d _ H => E cls d H) := takes_of rfl rfl rfl rfl
    exact ⟨rdS (rc PR K (gv K) n fun cls d _ H => E cls d H) F_law.body, (pss_cons (ps_setLc (i := 1) (own := [("_law_cell", 9)]) rfl nd rfl rfl (sw_true rfl rfl rfl (by decide +kernel)) (zi_seq (pe_slice z_slice (pv 0) (po_some (pe_int)) (po_some (pe_int)))) (blkOk_by (own := [("_law_cell", 9)]) (by kernel_rfl)) (fun _ _ _ _ _ => znm 9 nd) (fun _ _ _ _ _ => pts_nil) (fun _ _ _ _ _ => zcall (A.l_number) hr rfl T.g__law_number zpL (pa_cons (pv 9) (pa_nil)))) (pss_cons (zset 2 nd (zb_min2 rfl rfl T.b_min (pa_cons (pe_op z_mod (zcall (A.l_cell_at) hr rfl T.g__law_cell_at zpD (pa_cons (pv 0) (pa_cons (pe_int) (pa_nil)))) (pe_op z_add (zb_len rfl T.b_len (pa_cons (pv 1) (pa_nil))) (pe_int))) (pa_cons (pe_int) (pa_nil))))) (pss_cons (zset 3 nd (pe_tup (pa_cons (zcall (A.l_number) hr rfl T.g__law_number zpD (pa_cons (zcall (A.l_cell_at) hr rfl T.g__law_cell_at zpD (pa_cons (pv 0) (pa_cons (pe_int) (pa_nil)))) (pa_nil))) (pa_cons (pe_slice z_slice (pv 1) (po_some (pv 2)) po_none) (pa_cons (pe_slice z_slice (pv 1) po_none (po_some (pv 2))) (pa_nil)))))) (pss_cons (zset 4 nd (pe_tup (pa_cons (pe_ix ix_seq (pv 3) (pe_int) (fun _ _ => rfl)) (pa_cons (zb_list rfl rfl T.b_list (pa_cons (pe_ix ix_seq (pv 3) (pe_int) (fun _ _ => rfl)) (pa_nil))) (pa_cons (zb_list rfl rfl T.b_list (pa_cons (pe_ix ix_seq (pv 3) (pe_int) (fun _ _ => rfl)) (pa_nil))) (pa_nil)))))) (pss_cons (zset 5 nd (zcall (A.show_paper) hr rfl T.g_show_paper zpD (pa_cons (pv 4) (pa_nil)))) (pss_cons (ps_if (PW.pt (pw_or (pt_cmpR (z_ne hu) (pv 4) (pv 3) (nomark _)) (pw_or (pt_not (ztru (zisi .str rfl rfl T.b_isinstance rfl T.b_str (pv 5)))) (pw_or (pt_cmpR (z_ne hu) (pv 5) (zcall (A.l_text) hr rfl T.g__law_text zpD (pa_cons (pv 3) (pa_nil))) (nomark _)) (pw_or1 (pt_not (ztru (zcall (A.l_read) hr rfl T.g__law_read zpD (pa_cons (pv 5) (pa_nil)))))))))) (pss_one (ps_ret (pe_bl))) (pss_nil)) (pss_cons (zset 6 nd (pe_op z_mod (zcall (A.l_cell_at) hr rfl T.g__law_cell_at zpD (pa_cons (pv 0) (pa_cons (pe_int) (pa_nil)))) (pe_op z_pow (pe_int) (pe_int)))) (pss_cons (ps_for zo rfl (zi_range1 rfl T.b_range (pa_cons (pe_int) (pa_nil))) (znm 7 nd) (pss_one (ps_if (pt_not (ztru (zcall (A.l_read) hr rfl T.g__law_read zpD (pa_cons (zcall (A.l_spoilt) hr rfl T.g__law_spoilt zpD (pa_cons (pv 5) (pa_cons (pv 7) (pa_cons (pe_op z_fdiv (pv 6) (pe_op z_add (pv 7) (pe_int))) (pa_cons (pe_op z_add (pe_op z_fdiv (pv 6) (pe_int)) (pv 7)) (pa_nil)))))) (pa_nil))))) (pss_one (ps_ret (pe_bl))) (pss_nil)))) (pss_cons (zset 8 nd (pe_ix ix_seq (pe_lst (pa_cons (pe_int) (pa_cons (pe_int) (pa_nil)))) (pe_op z_mod (pv 6) (pe_int)) (fun _ _ => rfl))) (pss_one (ps_ret (zcall (A.l_read) hr rfl T.g__law_read zpD (pa_cons (zcall (A.l_text) hr rfl T.g__law_text zpD (pa_cons (pe_tup (pa_cons (pe_ix ix_seq (pv 3) (pe_int) (fun _ _ => rfl)) (pa_cons (pe_ix ix_seq (pv 3) (pe_int) (fun _ _ => rfl)) (pa_cons (pe_lc (own := [("_law_k", 10)]) rfl nd (zi_range1 rfl T.b_range (pa_cons (pv 8) (pa_nil))) (blkOk_by (own := [("_law_k", 10)]) (by kernel_rfl)) (fun _ _ _ _ _ => znm 10 nd) (fun _ _ _ _ _ => pts_nil) (fun _ _ _ _ _ => pe_op z_fdiv (pv 6) (pe_op z_add (pv 10) (pe_int)))) (pa_nil))))) (pa_nil))) (pa_nil)))))))))))))), body_ok (facts T) fn_law rfl h⟩
theorem al_zero {P : Program} {w : World} {K : PySem.W.Frag} {mg : Str → Option Value} {base : Heap} (T : HF K mg) : AL P w K mg base 0 :=
  ⟨cal_number_of T fun _ _ => fn_zero,
   cal_shown_numbers T fun _ _ => fn_zero,
   cal_show_paper T fun _ _ => fn_zero,
   cal_read_number T fun _ _ => fn_zero,
   cal_read_numbers T fun _ _ => fn_zero,
   cal_read_paper T fun _ _ => fn_zero,
   cal_l_cell_at T fun _ _ => fn_zero,
   cal_l_whole T fun _ _ => fn_zero,
   cal_l_number_of T fun _ _ => fn_zero,
   cal_l_text T fun _ _ => fn_zero,
   cal_l_numbers_of T fun _ _ => fn_zero,
   cal_l_paper_of T fun _ _ => fn_zero,
   cal_l_is T fun _ _ => fn_zero,
   cal_l_refused_by_any T fun _ _ => fn_zero,
   cal_l_read T fun _ _ => fn_zero,
   cal_l_spoilt T fun _ _ => fn_zero,
   cal_l_number T fun _ _ => fn_zero,
   cal_law T fun _ _ => fn_zero⟩
theorem al_succ {P : Program} {w : World} {K : PySem.W.Frag} {mg : Str → Option Value} {base : Heap} {n : Nat} (T : HF K mg) (A : AL P w K mg base n) : AL P w K mg base (n + 1) :=
  ⟨cal_number_of T fun _ F => ok_number_of T A F,
   cal_shown_numbers T fun _ F => ok_shown_numbers T A F,
   cal_show_paper T fun _ F => ok_show_paper T A F,
   cal_read_number T fun _ F => ok_read_number T A F,
   cal_read_numbers T fun _ F => ok_read_numbers T A F,
   cal_read_paper T fun _ F => ok_read_paper T A F,
   cal_l_cell_at T fun _ F => ok_l_cell_at T A F,
   cal_l_whole T fun _ F => ok_l_whole T A F,
   cal_l_number_of T fun _ F => ok_l_number_of T A F,
   cal_l_text T fun _ F => ok_l_text T A F,
   cal_l_numbers_of T fun _ F => ok_l_numbers_of T A F,
   cal_l_paper_of T fun _ F => ok_l_paper_of T A F,
   cal_l_is T fun _ F => ok_l_is T A F,
   cal_l_refused_by_any T fun _ F => ok_l_refused_by_any T A F,
   cal_l_read T fun _ F => ok_l_read T A F,
   cal_l_spoilt T fun _ F => ok_l_spoilt T A F,
   cal_l_number T fun _ F => ok_l_number T A F,
   cal_law T fun _ F => ok_law T A F⟩
theorem al_all {P : Program} {w : World} {K : PySem.W.Frag} {mg : Str → Option Value} {base : Heap} (T : HF K mg) : ∀ n, AL P w K mg base n
  | 0 => al_zero T
  | n + 1 => al_succ T (al_all T n)
abbrev R : PySem.W.OpenRow := PySem.W.OpenLaw.row PySem.Challenge.rw_meterhouse_k51_papers_texts
abbrev hk : PySem.W.Hook := hookZ 4 fas dfs exb
def ob (s : PySem.W.SharedT) : AlZ := obsZ 4 fas dfs exb (HandSHeadRun.getT s)
theorem ob_eq (s : PySem.W.SharedT) : ob s = hk.obs s.abs := obsZ_eq (HandSHeadRun.getT_eq s)
theorem run (w : World) : HandSHeadRun.RunEq R (PySem.W.view R.prog [36]) hk ob 40000 ("HouseError" :: "NoCode" :: "NoClash" :: "NoSlot" :: "Taken" :: "NoNumber" :: "TooMuch" :: "NoAccount" :: "NoLimit" :: "PoorPurse" :: "PoorCoin" :: "NoPaper" :: "NoRow" :: "WIDE" :: "FIGURES" :: "number_of" :: "shown_numbers" :: "show_paper" :: "read_number" :: "read_numbers" :: "read_paper" :: "_law_cell_at" :: "_law_whole" :: "_law_number_of" :: "_law_text" :: "_law_numbers_of" :: "_law_paper_of" :: "_law_is" :: "_law_refused_by_any" :: "_law_read" :: "_law_spoilt" :: "_law_number" :: []) w := by
  intro os
  kernel_rfl
end K51
end Z
open PySem PySem.W PySem.Calls PyProof.Rows
theorem Z.K51.holds_of (N : Nat) (hN : Nat.ble N 100 = true) (sol : ∀ ns : List Int, ns.length ≤ 63 → ∃ h', Z.callF Z.K51.PR (N + 1) "law" [.ref 0] (Z.h0 ns) = some (.ok (.bl true), h')) : PySem.Challenge.rw_meterhouse_k51_papers_texts.Holds := by
  w_on; o_law
  refine HandSHeadRun.head_any (r := OpenLaw.row PySem.Challenge.rw_meterhouse_k51_papers_texts) (q := view (OpenLaw.row PySem.Challenge.rw_meterhouse_k51_papers_texts).prog [36]) (H := Z.K51.hk) (ob := Z.K51.ob) (M := 40000) (loose := ("HouseError" :: "NoCode" :: "NoClash" :: "NoSlot" :: "Taken" :: "NoNumber" :: "TooMuch" :: "NoAccount" :: "NoLimit" :: "PoorPurse" :: "PoorCoin" :: "NoPaper" :: "NoRow" :: "WIDE" :: "FIGURES" :: "number_of" :: "shown_numbers" :: "show_paper" :: "read_number" :: "read_numbers" :: "read_paper" :: "_law_cell_at" :: "_law_whole" :: "_law_number_of" :: "_law_text" :: "_law_numbers_of" :: "_law_paper_of" :: "_law_is" :: "_law_refused_by_any" :: "_law_read" :: "_law_spoilt" :: "_law_number" :: [])) (d := HandSHeadRun.topDef (OpenLaw.row PySem.Challenge.rw_meterhouse_k51_papers_texts).prog 36) (kwd := []) Z.K51.ob_eq
    (by kernel_rfl) (fun s => by kernel_rfl) Z.K51.run (by kernel_rfl) (by kernel_rfl) (by kernel_rfl) (by rfl) (by first | assumption | decide +kernel) (by decide +kernel) ⟨rfl, rfl, rfl, rfl, rfl, by decide +kernel⟩ ?hw ?hc
  case hw => w_witness2
  case hc =>
    refine L2.walk_ofE (l := PySem.Challenge.rw_meterhouse_k51_papers_texts) (n := 63) (k := 2 * (N + 1)) (x := "_law_script") (CX := L2.CX0) rfl (by decide) (by kernel_rfl) (L2.Room.mono (k := 202) ⟨rfl, by decide, by decide⟩ (by have := Nat.le_of_ble_eq_true hN; omega)) ?F (fun _ _ _ _ z => z)
    intro w mg fa h Y G hmg0
    obtain ⟨K, KX, c⟩ := Y
    have hmg : mg ("law" : PySem.Str) = some (.ref fa) := by
      have e : (HandSHeadRun.topDef (OpenLaw.row PySem.Challenge.rw_meterhouse_k51_papers_texts).prog 36).name = ("law" : PySem.Str) := by kernel_rfl
      rw [← e]
      exact hmg0
    have T := Z.K51.hf_of KX G c
    obtain ⟨fd, F⟩ := T.d_law
    have e := hmg.symm.trans T.g_law
    cases e
    have b := L2.FunD.bindsA (ps := ["_law_script"]) F fun _ _ _ _ _ _ us hl => match us, hl with | [_], _ => rfl
    exact ⟨K, fd, fun vs H Q _ => Z.spR Z.K51.PR K (N + 1) "law" vs H Q fun _ _ _ => False, KX, fun s v => b s [v] rfl, fun H a ns hl hO hS => Z.law_sp (n := 63) Z.K51.fn_law rfl sol H a ns hl hO hS, fun base hb hn => Z.ok0 (Z.K51.ok_law T (Z.K51.al_all T N) F)⟩

set_option maxRecDepth 100000
set_option maxHeartbeats 4000000
namespace Z
namespace K51
open PySem
local macro_rules
  | `(tactic| trivial) => `(tactic| first | omega | (simp only [new_next, put_next, h0_next, List.length_map, List.length_append, List.length_cons, List.length_nil, List.length_range] <;> omega))
local macro_rules
  | `(tactic| simp_arith [$ls,*]) => `(tactic| simp (maxSteps := 1000000) (disch := first | omega | (simp only [new_next, put_next, h0_next, List.length_map, List.length_append, List.length_cons, List.length_nil, List.length_range] <;> omega) | assumption | (simp <;> fail) | omega) [$ls,*])
  | `(tactic| simp_arith [$ls,*] $loc:location) => `(tactic| simp (maxSteps := 1000000) (disch := first | omega | (simp only [new_next, put_next, h0_next, List.length_map, List.length_append, List.length_cons, List.length_nil, List.length_range] <;> omega) | assumption | (simp <;> fail) | omega) [$ls,*] $loc)
local macro_rules
  | `(tactic| simp_arith! [$ls,*]) => `(tactic| simp (maxSteps := 1000000) (disch := first | omega | (simp only [new_next, put_next, h0_next, List.length_map, List.length_append, List.length_cons, List.length_nil, List.length_range] <;> omega) | assumption | (simp (disch := omega) <;> assumption) | omega) [$ls,*])
  | `(tactic| simp_arith! [$ls,*] $loc:location) => `(tactic| simp (maxSteps := 1000000) (disch := first | omega | (simp only [new_next, put_next, h0_next, List.length_map, List.length_append, List.length_cons, List.length_nil, List.length_range] <;> omega) | assumption | (simp (disch := omega) <;> assumption) | omega) [$ls,*] $loc)

theorem c_cell_at (n : Nat) (ns : List Int) (k : Nat) (h : Hm) (e : h.get 0 = some (.fz (ns.map D.int))) : callF PR (n + 1) "_law_cell_at" [.ref 0, .int (k : Int)] h = some (.ok (.int (cell ns k)), h) := by
  rw [callF_eq fn_l_cell_at rfl]
  by_cases hk : k < ns.length
  · simp_arith [F_l_cell_at, e, hk, at_script]
  · simp_arith [F_l_cell_at, e, hk, cell_out]
def dgB (c : Nat) : Bool := decide (48 ≤ c ∧ c ≤ 57)
theorem fig_list : (Str.ofString "0123456789").cps.toList = [48, 49, 50, 51, 52, 53, 54, 55, 56, 57] := by decide +kernel
theorem in_fig (c : Nat) : decide (c ∈ (Str.ofString "0123456789").cps.toList) = dgB c := by
  rw [fig_list, Bool.eq_iff_iff, decide_eq_true_eq, dgB, decide_eq_true_eq]
  simp
  omega
theorem nin_fig (c : Nat) (h : Hm) : cmpD .nin (.str ⟨#[c]⟩) (.str (Str.ofString "0123456789")) h = some (!dgB c) := by
  have : inS ⟨#[c]⟩ (Str.ofString "0123456789") = dgB c := by
    unfold inS
    rw [if_pos (show (#[c] : Array Nat).size = 1 from rfl)]
    exact in_fig c
  simp only [cmpD, inD, this, Option.map_some]
theorem one_eq (c : Nat) : ((⟨#[c]⟩ : Str) = Str.ofString "0") ↔ c = 48 := by
  have : Str.ofString "0" = ⟨#[48]⟩ := by decide +kernel
  rw [this]
  constructor
  · intro e; injection e with e; simpa using e
  · rintro rfl; rfl
def vl (z : Str) : Int := (NumText.digitsVal z.cps.toList : Nat)
def nof (z : Str) : Option Int := if 1 ≤ z.length ∧ z.length ≤ 20 ∧ z.cps.toList.all dgB = true ∧ ¬ (z.cps.toList[0]? = some 48 ∧ 1 < z.length) ∧ vl z < 18446744073709551616 then some (vl z) else none
def oD : Option Int → D
  | none => .non
  | some v => .int v
theorem len_list (z : Str) : z.cps.toList.length = z.length := by simp [Str.length]
theorem c_number_of (n : Nat) (z : Str) (hz : z.length ≤ 10000) (h : Hm) : callF PR (n + 1) "number_of" [.str z] h = some (.ok (oD (nof z)), h) := by
  rw [callF_eq fn_number_of rfl]
  by_cases h1 : z.length < 1
  · have h2 : (z.length : Int) < 1 := by omega
    have : nof z = none := if_neg (by omega)
    simp_arith [F_number_of, h2, this, oD]
  by_cases h3 : 20 < z.length
  · have h2 : ¬ (z.length : Int) < 1 := by omega
    have h4 : 20 < (z.length : Int) := by omega
    have : nof z = none := if_neg (by omega)
    simp_arith [F_number_of, h2, h4, this, oD]
  have h2 : ¬ (z.length : Int) < 1 := by omega
  have h4 : ¬ 20 < (z.length : Int) := by omega
  simp_arith [F_number_of, h2, h4]
  refine findO (fun o => endF o = some (.ok (oD (nof z)), h)) (fun c => D.str ⟨#[c]⟩) (fun c => !dgB c) (fun env => ∃ v1, env = [some (.str z), v1, none]) ⟨_, rfl⟩ (stays_nil _) ?_ ?_ ?_
  · rintro c hc hp env ⟨v1, rfl⟩
    refine ⟨_, rfl, [some (.str z), some (.str ⟨#[c]⟩), none], ?_, _, rfl⟩
    have hp' : dgB c = true := by simpa using hp
    simp_arith [nin_fig, hp']
  · rintro c hc hp env ⟨v1, rfl⟩
    have hp' : dgB c = false := by simpa using hp
    refine ⟨_, rfl, .non, [some (.str z), some (.str ⟨#[c]⟩), none], ?_, ?_⟩
    · simp_arith [nin_fig, hp']
    · have : nof z = none := if_neg (fun q => by have := List.all_eq_true.mp q.2.2.1 c hc; rw [hp'] at this; cases this)
      rw [this]; rfl
  · rintro hp env ⟨v1, rfl⟩
    have hall : z.cps.toList.all dgB = true := by
      rw [List.all_eq_true]; intro c hc; simpa using hp c hc
    have ll := len_list z
    obtain ⟨c0, r, hcr⟩ : ∃ c0 r, z.cps.toList = c0 :: r := by
      cases e : z.cps.toList with
      | nil => rw [e] at ll; simp at ll; omega
      | cons c r => exact ⟨c, r, rfl⟩
    have i0 : idxD (.str z) (.int 0) h = some (.str ⟨#[c0]⟩) := idx_str (by omega) (by rw [hcr]; rfl)
    have ad : NumText.AllDigits z.cps.toList := fun c hc => by have := List.all_eq_true.mp hall c hc; simpa [dgB] using this
    have it := intText_digits ad (by rw [hcr]; simp) (by omega)
    have bi : biD .int [.str z] h = some (.ok (.int (vl z)), h) := bi_intS (by omega) it
    have g0 : z.cps.toList[0]? = some c0 := by rw [hcr]; rfl
    by_cases hc0 : c0 = 48 ∧ 1 < z.length
    · have h5 : 1 < (z.length : Int) := by omega
      have : nof z = none := if_neg (fun q => q.2.2.2.1 ⟨by rw [g0, hc0.1], hc0.2⟩)
      simp_arith [i0, one_eq, hc0.1, h5, this, oD]
    · have h5 : ¬ (c0 = 48 ∧ 1 < (z.length : Int)) := fun q => hc0 ⟨q.1, by omega⟩
      by_cases hv : vl z < 18446744073709551616
      · have : nof z = some (vl z) := if_pos ⟨by omega, by omega, hall, fun q => hc0 ⟨by rw [g0] at q; simpa using q.1, q.2⟩, hv⟩
        by_cases hq : c0 = 48
        · have h6 : ¬ 1 < (z.length : Int) := fun q => h5 ⟨hq, q⟩
          simp_arith [i0, one_eq, hq, h6, this, oD, bi, hv]
        · simp_arith [i0, one_eq, hq, this, oD, bi, hv]
      · have : nof z = none := if_neg (fun q => hv q.2.2.2.2)
        by_cases hq : c0 = 48
        · have h6 : ¬ 1 < (z.length : Int) := fun q => h5 ⟨hq, q⟩
          simp_arith [i0, one_eq, hq, h6, this, oD, bi, hv]
        · simp_arith [i0, one_eq, hq, this, oD, bi, hv]

set_option checkBinderAnnotations false in
def accI (o : Option O) [k : List D → Res D] : Res D := match o with
  | some (.lst acc) => k acc
  | _ => none
@[simp] theorem accI_l (acc : List D) (k : List D → Res D) : @accI (some (.lst acc)) k = k acc := id rfl
theorem compL_c0 {fe : Env → Hm → Res D} {ft : Env → Hm → Res Bool} {g : Tg} {a : Nat} {env : Env} {x : D} {xs : List D} {h : Hm} : compL fe ft g [] a env (x :: xs) h = @someI _ _ (asgT g x env) fun env1 => @bndNI _ _ (ft env1 h) fun b h2 => if b = true then @bndNI _ _ (fe env1 h2) fun y h3 => @accI (h3.get a) fun acc => if acc.length < 1000000 then compL fe ft g [] a env xs (h3.put a (.lst (acc ++ [y]))) else none else compL fe ft g [] a env xs h2 := by
  rw [compL, if_pos (stays_nil _)]
  cases asgT g x env <;> rfl
def Thru (I : Env → Hm → Prop) (o : Out) : Prop := ∃ env2 h2, o = some (.nx, env2, h2) ∧ I env2 h2
theorem Thru.nx {I : Env → Hm → Prop} {env : Env} {h : Hm} (i : I env h) : Thru I (some (.nx, env, h)) := ⟨_, _, rfl, i⟩
def Ends (R : Res D → Prop) (o : Out) : Prop := R (endF o)
theorem name_thru {I : Env → Hm → Prop} {cl : Cl} {b : Z.S} {env : Env} {H : Hm} (p : ∀ G, H = G → Thru I (ex PR cl b env G)) : Thru I (ex PR cl b env H) := p H rfl
theorem name_ends {R : Res D → Prop} {cl : Cl} {b : Z.S} {env : Env} {H : Hm} (p : ∀ G, H = G → Ends R (ex PR cl b env G)) : Ends R (ex PR cl b env H) := p H rfl
theorem for_seq {α : Type} {cl : Cl} (Q : Out → Prop) {g : Tg} {k : ItK} {es : Es} {body rest : Z.S} {env : Env} {h h1 : Hm} {vs : List D} {cs : List α} {gd : List (Nat × O)} (A : α → D) (I : List α → Env → Hm → Prop) (he : evs PR cl es env h = some (.ok vs, h1)) (hw : walk k vs h1 = some (cs.map A, gd))
    (i0 : I [] env h1) (hs : ∀ d env h, I d env h → stays gd h) (step : ∀ d c rest env h, cs = d ++ c :: rest → I d env h → ∃ env1, asgT g (A c) env = some env1 ∧ Thru (I (d ++ [c])) (ex PR cl body env1 h))
    (post : ∀ env h, I cs env h → Q (ex PR cl rest env h)) : Q (ex PR cl (.seq (.for_ g k es body) rest) env h) := by
  obtain ⟨env', h', e1, i1⟩ := forL_rel (fb := fun e1 h2 => ex PR cl body e1 h2) (g := g) (gd := gd) A I i0 hs step
  rw [seq_nx (by rw [ex_for_eq he hw]; exact e1)]
  exact post env' h' i1
def andB (x : D) (m : Res D) (h : Hm) : Res D := match x with
  | .bl true => m
  | .bl false => ok (.bl false) h
  | _ => none
@[simp] theorem andB_t (m : Res D) (h : Hm) : andB (.bl true) m h = m := id rfl
@[simp] theorem andB_f (m : Res D) (h : Hm) : andB (.bl false) m h = some (.ok (.bl false), h) := id rfl
@[simp] theorem andB_b (b c : Bool) (h : Hm) : andB (.bl b) (some (.ok (.bl c), h)) h = some (.ok (.bl (b && c)), h) := by cases b <;> rfl
theorem ev_and2 {P : Prog} {cl : Cl} (a b : E) (env : Env) (h : Hm) : ev P cl (.and a b) env h = @bndI _ _ (ev P cl a env h) fun x h1 => andB x (ev P cl b env h1) h1 := by rw [ev]; rfl
def orB (x : D) (m : Res D) (h : Hm) : Res D := match x with
  | .bl true => ok (.bl true) h
  | .bl false => m
  | _ => none
@[simp] theorem orB_t (m : Res D) (h : Hm) : orB (.bl true) m h = some (.ok (.bl true), h) := id rfl
@[simp] theorem orB_f (m : Res D) (h : Hm) : orB (.bl false) m h = m := id rfl
@[simp] theorem orB_b (b c : Bool) (h : Hm) : orB (.bl b) (some (.ok (.bl c), h)) h = some (.ok (.bl (b || c)), h) := by cases b <;> rfl
theorem ev_or2 {P : Prog} {cl : Cl} (a b : E) (env : Env) (h : Hm) : ev P cl (.or a b) env h = @bndI _ _ (ev P cl a env h) fun x h1 => orB x (ev P cl b env h1) h1 := by rw [ev]; rfl
def U (x : Int) : Prop := 0 ≤ x ∧ x < 18446744073709551616
theorem comp_ev {cl : Cl} {elt : E} {own : List Nat} {g : Tg} {k : ItK} {es : Es} {tst : Z.T} {env : Env} {h h1 : Hm} {vs items : List D} {gd : List (Nat × O)} (he : evs PR cl es env h = some (.ok vs, h1)) (hw : walk k vs h1 = some (items, gd)) (hg : g.in_ own = true) :
    ev PR cl (.comp elt own g k es tst) env h = compL (fun e1 h2 => ev PR cl elt e1 h2) (fun e1 h2 => evT PR cl tst e1 h2) g gd h1.next (wipeE env own) items (h1.new (.lst [])) := by
  rw [ev, he]
  show (match walk k vs h1 with | some (items, gd) => _ | none => none) = _
  rw [hw]
  show (if g.in_ own = true then _ else none) = _
  rw [if_pos hg]
theorem cpx_ev {cl : Cl} {elt : E} {own : List Nat} {g : Tg} {k : ItK} {es : Es} {tst : Z.T} {env : Env} {h h1 : Hm} {vs items : List D} {gd : List (Nat × O)} (he : evs PR cl es env h = some (.ok vs, h1)) (hw : walk k vs h1 = some (items, gd)) (hg : g.in_ own = true) :
    ev PR cl (.cpx elt own g k es tst) env h = compX (fun e1 h2 => ev PR cl elt e1 h2) (fun e1 h2 => evT PR cl tst e1 h2) g gd h1.next (wipeE env own) items (h1.new (.lst [])) := by
  rw [ev, he]
  show (match walk k vs h1 with | some (items, gd) => _ | none => none) = _
  rw [hw]
  show (if g.in_ own = true then _ else none) = _
  rw [if_pos hg]
theorem new_get_at (h : Hm) (o : O) : (h.new o).get h.next = some o := by rw [new_get, if_pos rfl]
theorem joinL_len {s : List Nat} (hs : 1 ≤ s.length) : ∀ ps : List (List Nat), ps.length ≤ (TL.joinL s ps).length + 1 ∧ ∀ p ∈ ps, p.length ≤ (TL.joinL s ps).length
  | [] => ⟨Nat.zero_le _, fun p hp => by cases hp⟩
  | [p] => ⟨Nat.le_add_left _ _, fun q hq => by rw [List.mem_singleton.mp hq]; exact Nat.le_refl _⟩
  | p :: q :: r => by
    obtain ⟨i1, i2⟩ := joinL_len hs (q :: r)
    have e : TL.joinL s (p :: q :: r) = p ++ (s ++ TL.joinL s (q :: r)) := rfl
    rw [e]
    simp only [List.length_append, List.length_cons] at i1 i2 ⊢
    refine ⟨by omega, fun x hx => ?_⟩
    rcases List.mem_cons.mp hx with rfl | hx
    · omega
    · have := i2 x hx
      omega
theorem split_len (x y : Str) (hy : (y.length == 0) = false) : (Txt.split x y).length ≤ x.length + 1 ∧ ∀ p ∈ Txt.split x y, p.length ≤ x.length := by
  have e : Txt.join y (Txt.split x y) = x := by rw [TL.join_eq]; exact StrLaws.join_split x _
  have e := congrArg TL.tl e
  rw [TL.join_eq, TL.tl_join] at e
  have ly : 1 ≤ (TL.tl y).length := by
    have : (TL.tl y).length = y.length := len_list y
    have := beq_eq_false_iff_ne.mp hy
    omega
  have lx : (TL.tl x).length = x.length := len_list x
  obtain ⟨i1, i2⟩ := joinL_len ly ((Txt.split x y).map TL.tl)
  rw [e, lx, List.length_map] at i1
  rw [e, lx] at i2
  refine ⟨i1, fun p hp => ?_⟩
  have := i2 (TL.tl p) (List.mem_map.mpr ⟨p, hp, rfl⟩)
  have lp : (TL.tl p).length = p.length := len_list p
  omega
theorem compX_exc {α : Type} {fe : Env → Hm → Res D} {ft : Env → Hm → Res Bool} {g : Tg} {gd : List (Nat × O)} {a : Nat} {env : Env} (A : α → D) (F : α → Option Int) (k : String) (hgd : ∀ p ∈ gd, p.1 ≠ a) : ∀ (cs : List α) (acc : List D) (h : Hm),
    (∀ c ∈ cs, ∃ env1, asgT g (A c) env = some env1 ∧ ∀ h, ft env1 h = some (.ok true, h) ∧ fe env1 h = some ((match F c with
      | some y => .ok (.int y)
      | none => .error k), h)) → stays gd h → h.get a = some (.lst acc) → acc.length + cs.length ≤ 1000000 →
    ∃ acc', compX fe ft g gd a env (cs.map A) h = some ((match mapO F cs with
      | some _ => .ok (.ref a)
      | none => .error k), h.put a (.lst acc')) ∧ ∀ ys, mapO F cs = some ys → acc' = acc ++ ys.map D.int
  | [], acc, h, hx, hs, ha, hl => by
    refine ⟨acc, ?_, fun ys e => by cases e; simp⟩
    rw [List.map_nil, put_self ha]
    unfold compX
    rw [if_pos hs]
    rfl
  | x :: xs, acc, h, hx, hs, ha, hl => by
    obtain ⟨env1, e1, e2⟩ := hx x (List.mem_cons_self ..)
    obtain ⟨e3, e4⟩ := e2 h
    rw [List.map_cons]
    unfold compX
    rw [if_pos hs, e1]
    simp only [e3, bndN_ok, if_true]
    cases hf : F x with
    | none =>
      rw [hf] at e4
      have e4 : fe env1 h = some (.error k, h) := e4
      have hm : mapO F (x :: xs) = none := by simp only [mapO, hf]
      refine ⟨acc, ?_, fun ys e => by rw [hm] at e; cases e⟩
      rw [e4, hm, put_self ha]; rfl
    | some y =>
      rw [hf] at e4
      have e4 : fe env1 h = some (.ok (.int y), h) := e4
      have hl' : acc.length < 1000000 := by simp only [List.length_cons] at hl; omega
      obtain ⟨acc', ih1, ih2⟩ := compX_exc A F k hgd xs (acc ++ [D.int y]) (h.put a (.lst (acc ++ [D.int y]))) (fun c hc => hx c (List.mem_cons_of_mem _ hc)) (fun p hp => by rw [put_get, if_neg (hgd p hp)]; exact hs p hp) (by rw [put_get, if_pos rfl]) (by simp only [List.length_append, List.length_cons, List.length_nil] at hl ⊢; omega)
      have pp : ∀ o o', (h.put a o).put a o' = h.put a o' := fun o o' => by simp [Hm.put]; funext b; split <;> rfl
      rw [e4]
      refine ⟨acc', ?_, fun ys e => ?_⟩
      · show (match h.get a with
          | some (.lst acc) => if acc.length < lim then compX fe ft g gd a env (xs.map A) (h.put a (.lst (acc ++ [D.int y]))) else none
          | _ => none) = _
        rw [ha]
        show (if acc.length < lim then compX fe ft g gd a env (xs.map A) (h.put a (.lst (acc ++ [D.int y]))) else none) = _
        rw [if_pos (show acc.length < lim from hl'), ih1, pp]
        cases hm : mapO F xs with
        | none => simp only [mapO, hf, hm]
        | some ys => simp only [mapO, hf, hm]
      · cases hm : mapO F xs with
        | none => simp only [mapO, hf, hm] at e; cases e
        | some ys' =>
          simp only [mapO, hf, hm] at e
          cases e
          rw [ih2 ys' hm, List.append_assoc]; rfl
theorem sp_len : (Str.ofString " ").length = 1 := by decide +kernel
theorem sl_len : (Str.ofString " / ").length = 3 := by decide +kernel
theorem c_read_number (n : Nat) (z : Str) (hz : z.length ≤ 10000) (h : Hm) : callF PR (n + 2) "read_number" [.str z] h = some ((match nof z with
    | some v => .ok (.int v)
    | none => .error "NoPaper"), h) := by
  rw [callF_eq fn_read_number rfl]
  have e := c_number_of n z hz h
  cases hn : nof z with
  | none => rw [hn] at e; simp_arith [F_read_number, e, oD]
  | some v => rw [hn] at e; simp_arith [F_read_number, e, oD]
def pnum (z : Str) : Option (List Int) := if z = Str.ofString "" then some [] else mapO nof (Txt.split z (Str.ofString " "))
theorem c_read_numbers (n : Nat) (z : Str) (hz : z.length ≤ 10000) (h : Hm) :
    ∃ g a, callF PR (n + 3) "read_numbers" [.str z] h = some ((match pnum z with
      | some _ => .ok (.ref a)
      | none => .error "NoPaper"), g) ∧ Gro h g ∧ h.next ≤ a ∧ a < g.next ∧ ∀ us, pnum z = some us → g.get a = some (.lst (us.map D.int)) := by
  rw [callF_eq fn_read_numbers rfl]
  by_cases hne : z = Str.ofString ""
  · subst hne
    have hp : pnum (Str.ofString "") = some [] := if_pos rfl
    refine ⟨h.new (.lst []), h.next, ?_, .new, Nat.le_refl _, by rw [new_next]; omega, fun us e => by rw [hp] at e; cases e; exact new_get_at ..⟩
    rw [hp]
    simp_arith! [F_read_numbers]
  · have hp : pnum z = mapO nof (Txt.split z (Str.ofString " ")) := if_neg hne
    obtain ⟨sl, sp⟩ := split_len z (Str.ofString " ") (by decide +kernel)
    obtain ⟨g1, hg1⟩ : ∃ g1, h.new (.lst ((Txt.split z (Str.ofString " ")).map D.str)) = g1 := ⟨_, rfl⟩
    have gr1 : Gro h g1 := by rw [← hg1]; exact .new
    have n1 : g1.next = h.next + 1 := by rw [← hg1, new_next]
    have q1 : g1.get h.next = some (.lst ((Txt.split z (Str.ofString " ")).map D.str)) := by rw [← hg1]; exact new_get_at ..
    have bs : bmD .split (.str z) [.str (Str.ofString " ")] h = some (.ok (.ref h.next), g1) := by
      rw [bm_split ⟨by decide +kernel, by omega⟩, ← hg1] <;> rfl
    obtain ⟨ps, hps⟩ : ∃ ps, Txt.split z (Str.ofString " ") = ps := ⟨_, rfl⟩
    rw [hps] at hp sl sp q1
    obtain ⟨acc, e1, e2⟩ := compX_exc (fe := fun e1 h2 => ev PR (callF PR (n + 2)) (.call "read_number" (.cons (.var 1) (.nil)) []) e1 h2) (ft := fun e1 h2 => evT PR (callF PR (n + 2)) .yes e1 h2) (g := .name 1) (gd := [(h.next, .lst (ps.map D.str))]) (a := g1.next) (env := [some (.str z), none]) D.str nof "NoPaper" (fun p hp => by
      rw [List.mem_singleton.mp hp]; show h.next ≠ g1.next; omega) ps [] (g1.new (.lst [])) (fun p hp => ⟨_, rfl, fun h' => ⟨by simp_arith [], by
      have er := c_read_number n p (by have := sp p hp; omega) h'
      simp_arith! [er]⟩⟩) (by rw [stays_cons]; exact ⟨(Gro.new (h := g1)).get q1 (by omega), stays_nil _⟩) (new_get_at ..) (by simp only [List.length_nil]; omega)
    obtain ⟨CE, hCE⟩ : ∃ y, Z.E.cpx (.call "read_number" (.cons (.var 1) (.nil)) []) [1] (.name 1) .seq (.cons (.bm .split (.var 0) (.cons (.con (.str " ")) (.nil))) .nil) (.yes) = y := ⟨_, rfl⟩
    obtain ⟨g2, hg2⟩ : ∃ g2, (g1.new (.lst [])).put g1.next (.lst acc) = g2 := ⟨_, rfl⟩
    have gr2 : Gro g1 g2 := by rw [← hg2]; exact Gro.new.put (Nat.le_refl _)
    have n2 : g2.next = g1.next + 1 := by rw [← hg2, put_next, new_next]
    have q2 : g2.get g1.next = some (.lst acc) := by rw [← hg2, put_get, if_pos rfl]
    rw [hg2] at e1
    have ec : ev PR (callF PR (n + 2)) CE [some (.str z), none] h = some ((match mapO nof ps with
      | some _ => .ok (.ref g1.next)
      | none => .error "NoPaper"), g2) := by
      rw [← hCE, cpx_ev (h1 := g1) (vs := [.ref h.next]) (gd := [(h.next, .lst (ps.map D.str))]) (items := ps.map D.str) (by simp_arith! [bs]) (by simp_arith [q1]) rfl]
      exact e1
    refine ⟨g2, g1.next, ?_, gr1.trans gr2, by omega, by omega, fun us e => by rw [hp] at e; rw [q2, e2 us e]; rfl⟩
    rw [hp]
    have hb : F_read_numbers.body = .seq F_read_numbers.body.hd (.ret CE) := by rw [← hCE]; rfl
    rw [hb]
    have t0 : ex PR (callF PR (n + 2)) F_read_numbers.body.hd (start F_read_numbers.ns [.str z]) h = some (.nx, [some (.str z), none], h) := by
      simp_arith! [F_read_numbers, Z.S.hd, hne]
    rw [seq_nx t0]
    cases hm : mapO nof ps with
    | none =>
      rw [hm] at ec
      have ec : ev PR (callF PR (n + 2)) CE [some (.str z), none] h = some (.error "NoPaper", g2) := ec
      simp_arith! [ec]
    | some us =>
      rw [hm] at ec
      have ec : ev PR (callF PR (n + 2)) CE [some (.str z), none] h = some (.ok (.ref g1.next), g2) := ec
      simp_arith! [ec]
def papO (z : Str) : Option (Int × List Int × List Int) := match Txt.split z (Str.ofString " / ") with
  | [x, y, w] => (match nof x, pnum y, pnum w with
    | some k, some us, some vs => if vs.length ≤ 60 then some (k, us, vs) else none
    | _, _, _ => none)
  | _ => none
abbrev RpB : Z.S := F_read_paper.body
theorem c_read_paper (n : Nat) (z : Str) (hz : z.length ≤ 10000) (h : Hm) :
    ∃ g a b, callF PR (n + 4) "read_paper" [.str z] h = some ((match papO z with
      | some q => .ok (.tup [.int q.1, .ref a, .ref b])
      | none => .error "NoPaper"), g) ∧ Gro h g ∧ a < g.next ∧ b < g.next ∧ ∀ q, papO z = some q → g.get a = some (.lst (q.2.1.map D.int)) ∧ g.get b = some (.lst (q.2.2.map D.int)) := by
  rw [callF_eq fn_read_paper rfl]
  obtain ⟨R, hR⟩ : ∃ R : Res D → Prop, (fun r => ∃ g a b, r = some ((match papO z with
      | some q => .ok (.tup [.int q.1, .ref a, .ref b])
      | none => .error "NoPaper"), g) ∧ Gro h g ∧ a < g.next ∧ b < g.next ∧ ∀ q, papO z = some q → g.get a = some (.lst (q.2.1.map D.int)) ∧ g.get b = some (.lst (q.2.2.map D.int))) = R := ⟨_, rfl⟩
  have bad : ∀ g, Gro h g → h.next < g.next → papO z = none → R (some (.error "NoPaper", g)) := fun g gr l e => by
    rw [← hR]
    refine ⟨g, 0, 0, by rw [e], gr, by omega, by omega, fun q eq => by rw [e] at eq; cases eq⟩
  have goal : Ends R (ex PR (callF PR (n + 3)) (RpB.from 0) (start F_read_paper.ns [.str z]) h) := by
    obtain ⟨sl, sp⟩ := split_len z (Str.ofString " / ") (by decide +kernel)
    obtain ⟨g1, hg1⟩ : ∃ g1, h.new (.lst ((Txt.split z (Str.ofString " / ")).map D.str)) = g1 := ⟨_, rfl⟩
    have gr1 : Gro h g1 := by rw [← hg1]; exact .new
    have n1 : g1.next = h.next + 1 := by rw [← hg1, new_next]
    have q1 : g1.get h.next = some (.lst ((Txt.split z (Str.ofString " / ")).map D.str)) := by rw [← hg1]; exact new_get_at ..
    have bs : bmD .split (.str z) [.str (Str.ofString " / ")] h = some (.ok (.ref h.next), g1) := by
      rw [bm_split ⟨by decide +kernel, by omega⟩, ← hg1] <;> rfl
    obtain ⟨ps, hps⟩ : ∃ ps, Txt.split z (Str.ofString " / ") = ps := ⟨_, rfl⟩
    have hp := papO.eq_1 z
    rw [hps] at hp
    rw [hps] at q1 sl sp
    (rw [show Z.S.from RpB 0 = .seq (Z.S.from RpB 0).hd (Z.S.from RpB 1) from rfl]; generalize hKK : Z.S.from RpB 1 = KK; simp_arith! [RpB, F_read_paper, Z.S.bd, Z.S.hd, Z.S.tl, Z.S.from, bs]; subst hKK)
    by_cases h3 : ps.length = 3
    · obtain ⟨x, y, w, rfl⟩ : ∃ x y w, ps = [x, y, w] := by
        match ps, h3 with
        | [x, y, w], _ => exact ⟨x, y, w, rfl⟩
      have q1 : g1.get h.next = some (.lst [.str x, .str y, .str w]) := q1
      have lx := sp x (by simp)
      have ly := sp y (by simp)
      have lw := sp w (by simp)
      have er := c_read_number (n + 1) x (by omega) g1
      have hp : papO z = (match nof x, pnum y, pnum w with
        | some k, some us, some vs => if vs.length ≤ 60 then some (k, us, vs) else none
        | _, _, _ => none) := hp
      (rw [show Z.S.from RpB 1 = .seq (Z.S.from RpB 1).hd (Z.S.from RpB 2) from rfl]; generalize hKK : Z.S.from RpB 2 = KK; simp_arith! [RpB, F_read_paper, Z.S.bd, Z.S.hd, Z.S.tl, Z.S.from, q1]; subst hKK)
      cases hx : nof x with
      | none =>
        rw [hx] at er hp
        have er : callF PR (n + 3) "read_number" [.str x] g1 = some (.error "NoPaper", g1) := er
        have := bad g1 gr1 (by omega) hp
        simp_arith! [RpB, F_read_paper, Z.S.bd, Z.S.hd, Z.S.tl, Z.S.from, q1, er, Ends]
        exact this
      | some k =>
        rw [hx] at er hp
        have er : callF PR (n + 3) "read_number" [.str x] g1 = some (.ok (.int k), g1) := er
        (rw [show Z.S.from RpB 2 = .seq (Z.S.from RpB 2).hd (Z.S.from RpB 3) from rfl]; generalize hKK : Z.S.from RpB 3 = KK; simp_arith! [RpB, F_read_paper, Z.S.bd, Z.S.hd, Z.S.tl, Z.S.from, q1, er]; subst hKK)
        obtain ⟨g2, a, e2, gr2, a1, a2, qa⟩ := c_read_numbers n y (by omega) g1
        cases hy : pnum y with
        | none =>
          rw [hy] at e2 hp
          have e2 : callF PR (n + 3) "read_numbers" [.str y] g1 = some (.error "NoPaper", g2) := e2
          have := bad g2 (gr1.trans gr2) (by have := gr2.le; omega) hp
          simp_arith! [RpB, F_read_paper, Z.S.bd, Z.S.hd, Z.S.tl, Z.S.from, q1, e2, Ends]
          exact this
        | some us =>
          have qa := qa us hy
          rw [hy] at e2 hp
          have e2 : callF PR (n + 3) "read_numbers" [.str y] g1 = some (.ok (.ref a), g2) := e2
          (rw [show Z.S.from RpB 3 = .seq (Z.S.from RpB 3).hd (Z.S.from RpB 4) from rfl]; generalize hKK : Z.S.from RpB 4 = KK; simp_arith! [RpB, F_read_paper, Z.S.bd, Z.S.hd, Z.S.tl, Z.S.from, q1, e2]; subst hKK)
          have q12 := gr2.get q1 (by omega)
          obtain ⟨g3, b, e3, gr3, b1, b2, qb⟩ := c_read_numbers n w (by omega) g2
          cases hw : pnum w with
          | none =>
            rw [hw] at e3 hp
            have e3 : callF PR (n + 3) "read_numbers" [.str w] g2 = some (.error "NoPaper", g3) := e3
            have := bad g3 ((gr1.trans gr2).trans gr3) (by have := gr2.le; have := gr3.le; omega) hp
            simp_arith! [RpB, F_read_paper, Z.S.bd, Z.S.hd, Z.S.tl, Z.S.from, q12, e3, Ends]
            exact this
          | some vs =>
            have qb := qb vs hw
            rw [hw] at e3 hp
            have hp : papO z = if vs.length ≤ 60 then some (k, us, vs) else none := hp
            have e3 : callF PR (n + 3) "read_numbers" [.str w] g2 = some (.ok (.ref b), g3) := e3
            (rw [show Z.S.from RpB 4 = .seq (Z.S.from RpB 4).hd (Z.S.from RpB 5) from rfl]; generalize hKK : Z.S.from RpB 5 = KK; simp_arith! [RpB, F_read_paper, Z.S.bd, Z.S.hd, Z.S.tl, Z.S.from, q12, e3]; subst hKK)
            have lv : (vs.map D.int).length = vs.length := List.length_map ..
            by_cases h60 : vs.length ≤ 60
            · rw [if_pos h60] at hp
              have l60 : ¬ 60 < vs.length := by omega
              have l60' : ¬ (60 : Int) < (vs.length : Int) := by omega
              have fin : R (some (.ok (.tup [.int k, .ref a, .ref b]), g3)) := by
                rw [← hR]
                exact ⟨g3, a, b, by rw [hp], (gr1.trans gr2).trans gr3, by have := gr3.le; omega, b2, fun q eq => by
                  rw [hp] at eq; cases eq
                  exact ⟨gr3.get qa a2, qb⟩⟩
              generalize vs.map D.int = WD at qb lv
              (rw [show Z.S.from RpB 5 = .seq (Z.S.from RpB 5).hd (Z.S.from RpB 6) from rfl]; generalize hKK : Z.S.from RpB 6 = KK; simp_arith! [RpB, F_read_paper, Z.S.bd, Z.S.hd, Z.S.tl, Z.S.from, qb, lv, l60, l60']; subst hKK)
              simp_arith! [RpB, F_read_paper, Z.S.bd, Z.S.hd, Z.S.tl, Z.S.from, Ends]
              exact fin
            · rw [if_neg h60] at hp
              have l60 : 60 < vs.length := by omega
              have l60' : (60 : Int) < (vs.length : Int) := by omega
              have := bad g3 ((gr1.trans gr2).trans gr3) (by have := gr2.le; have := gr3.le; omega) hp
              generalize vs.map D.int = WD at qb lv
              simp_arith! [RpB, F_read_paper, Z.S.bd, Z.S.hd, Z.S.tl, Z.S.from, qb, lv, l60, l60', Ends]
              exact this
    · have hp : papO z = none := by
        rw [hp]
        match ps, h3 with
        | [], _ => rfl
        | [_], _ => rfl
        | [_, _], _ => rfl
        | [_, _, _], h3 => exact absurd rfl h3
        | _ :: _ :: _ :: _ :: _, _ => rfl
      have := bad g1 gr1 (by omega) hp
      have lp : (ps.map D.str).length = ps.length := List.length_map ..
      have h3' : ¬ (ps.length : Int) = 3 := by omega
      generalize ps.map D.str = PD at q1 lp
      simp_arith! [RpB, F_read_paper, Z.S.bd, Z.S.hd, Z.S.tl, Z.S.from, q1, lp, h3', Ends]
      exact this
  rw [← hR] at goal
  exact goal
def lnum (z : Str) : Int := (nof z).getD (-1)
theorem str_nil {z : Str} (h : z.length < 1) : z = Str.ofString "" := by
  have e : z.cps.toList = [] := List.eq_nil_of_length_eq_zero (by have := len_list z; omega)
  have : z = ⟨⟨z.cps.toList⟩⟩ := rfl
  rw [this, e]
  rfl
theorem c_lnumber_of (n : Nat) (z : Str) (hz : z.length ≤ 10000) (h : Hm) : callF PR (n + 1) "_law_number_of" [.str z] h = some (.ok (.int (lnum z)), h) := by
  rw [callF_eq fn_l_number_of rfl]
  by_cases h1 : z.length < 1
  · have : lnum z = -1 := by unfold lnum; rw [show nof z = none from if_neg (by omega)]; rfl
    have he := str_nil h1
    rw [this]
    subst he
    simp_arith [F_l_number_of]
  have he : ¬ z = Str.ofString "" := fun e => by
    have : (Str.ofString "").length = 0 := by decide +kernel
    rw [e] at h1; omega
  by_cases h3 : 20 < z.length
  · have h4 : 20 < (z.length : Int) := by omega
    have : lnum z = -1 := by unfold lnum; rw [show nof z = none from if_neg (by omega)]; rfl
    rw [this]
    simp_arith [F_l_number_of, he, h4]
  have h4 : ¬ 20 < (z.length : Int) := by omega
  have ll := len_list z
  obtain ⟨c0, r, hcr⟩ : ∃ c0 r, z.cps.toList = c0 :: r := by
    cases e : z.cps.toList with
    | nil => rw [e] at ll; simp at ll; omega
    | cons c r => exact ⟨c, r, rfl⟩
  have i0 : idxD (.str z) (.int 0) h = some (.str ⟨#[c0]⟩) := idx_str (by omega) (by rw [hcr]; rfl)
  have g0 : z.cps.toList[0]? = some c0 := by rw [hcr]; rfl
  by_cases hc0 : c0 = 48 ∧ 1 < z.length
  · have h5 : 1 < (z.length : Int) := by omega
    have : lnum z = -1 := by unfold lnum; rw [show nof z = none from if_neg (fun q => q.2.2.2.1 ⟨by rw [g0, hc0.1], hc0.2⟩)]; rfl
    rw [this]
    simp_arith [F_l_number_of, he, h4, i0, one_eq, hc0.1, h5]
  have tst : evT PR (callF PR n) (.and (.cmp .gt (.bi .len (.cons (.var 0) (.nil))) (.con (.int 1))) (.cmp .eq (.idx (.var 0) (.con (.int 0))) (.con (.str "0")))) [some (.str z), none, none] h = some (.ok false, h) := by
    by_cases h5 : 1 < z.length
    · have h6 : 1 < (z.length : Int) := by omega
      have h7 : ¬ c0 = 48 := fun e => hc0 ⟨e, h5⟩
      simp_arith [i0, one_eq, h6, h7]
    · have h6 : ¬ 1 < (z.length : Int) := by omega
      simp_arith [h6]
  obtain ⟨TT, hTT⟩ : ∃ TT, Z.T.and (.cmp .gt (.bi .len (.cons (.var 0) (.nil))) (.con (.int 1))) (.cmp .eq (.idx (.var 0) (.con (.int 0))) (.con (.str "0"))) = TT := ⟨_, rfl⟩
  have hb : F_l_number_of.body = .seq (.ite (.or (.cmp .eq (.var 0) (.con (.str ""))) (.or (.cmp .gt (.bi .len (.cons (.var 0) (.nil))) (.con (.int 20))) TT)) (.ret (.neg (.con (.int 1)))) (.skip)) (F_l_number_of.body.from 1) := by rw [← hTT]; rfl
  rw [hb]
  rw [hTT] at tst
  have t0 : ex PR (callF PR n) (.ite (.or (.cmp .eq (.var 0) (.con (.str ""))) (.or (.cmp .gt (.bi .len (.cons (.var 0) (.nil))) (.con (.int 20))) TT)) (.ret (.neg (.con (.int 1)))) (.skip)) (start F_l_number_of.ns [.str z]) h = some (.nx, [some (.str z), none, none], h) := by
    have es : start F_l_number_of.ns [.str z] = [some (.str z), none, none] := rfl
    rw [es]
    simp_arith! [he, h4, tst]
  rw [seq_nx t0]
  simp_arith [F_l_number_of, Z.S.from, Z.S.tl]
  refine findO (fun o => endF o = some (.ok (.int (lnum z)), h)) (fun c => D.str ⟨#[c]⟩) (fun c => !dgB c) (fun env => ∃ v1, env = [some (.str z), v1, none]) ⟨_, rfl⟩ (stays_nil _) ?_ ?_ ?_
  · rintro c hc hp env ⟨v1, rfl⟩
    refine ⟨_, rfl, [some (.str z), some (.str ⟨#[c]⟩), none], ?_, _, rfl⟩
    have hp' : dgB c = true := by simpa using hp
    simp_arith [nin_fig, hp']
  · rintro c hc hp env ⟨v1, rfl⟩
    have hp' : dgB c = false := by simpa using hp
    refine ⟨_, rfl, .int (-1), [some (.str z), some (.str ⟨#[c]⟩), none], ?_, ?_⟩
    · simp_arith [nin_fig, hp']
    · have : lnum z = -1 := by
        unfold lnum
        rw [show nof z = none from if_neg (fun q => by have := List.all_eq_true.mp q.2.2.1 c hc; rw [hp'] at this; cases this)]
        rfl
      rw [this]; rfl
  · rintro hp env ⟨v1, rfl⟩
    have hall : z.cps.toList.all dgB = true := by
      rw [List.all_eq_true]; intro c hc; simpa using hp c hc
    have ad : NumText.AllDigits z.cps.toList := fun c hc => by have := List.all_eq_true.mp hall c hc; simpa [dgB] using this
    have it := intText_digits ad (by rw [hcr]; simp) (by omega)
    have bi : biD .int [.str z] h = some (.ok (.int (vl z)), h) := bi_intS (by omega) it
    have fl : ¬ (z.cps.toList[0]? = some 48 ∧ 1 < z.length) := fun q => hc0 ⟨by rw [g0] at q; simpa using q.1, q.2⟩
    by_cases hv : vl z < 18446744073709551616
    · have : lnum z = vl z := by unfold lnum; rw [show nof z = some (vl z) from if_pos ⟨by omega, by omega, hall, fl, hv⟩]; rfl
      rw [this]
      simp_arith [bi, hv]
    · have : lnum z = -1 := by unfold lnum; rw [show nof z = none from if_neg (fun q => hv q.2.2.2.2)]; rfl
      rw [this]
      simp_arith [bi, hv]
def lnums (z : Str) : List Int := if z = Str.ofString "" then [] else (Txt.split z (Str.ofString " ")).map lnum
abbrev LnB : Z.S := F_l_numbers_of.body
theorem c_lnumbers_of (n : Nat) (z : Str) (hz : z.length ≤ 10000) (h : Hm) :
    ∃ g a, callF PR (n + 2) "_law_numbers_of" [.str z] h = some (.ok (.ref a), g) ∧ Gro h g ∧ a < g.next ∧ g.get a = some (.lst ((lnums z).map D.int)) ∧ (lnums z).length ≤ 10001 := by
  rw [callF_eq fn_l_numbers_of rfl]
  obtain ⟨R, hR⟩ : ∃ R : Res D → Prop, (fun r => ∃ g a, r = some (.ok (.ref a), g) ∧ Gro h g ∧ a < g.next ∧ g.get a = some (.lst ((lnums z).map D.int)) ∧ (lnums z).length ≤ 10001) = R := ⟨_, rfl⟩
  have goal : Ends R (ex PR (callF PR (n + 1)) (LnB.from 0) (start F_l_numbers_of.ns [.str z]) h) := by
    obtain ⟨g0, hg0⟩ : ∃ g0, h.new (.lst []) = g0 := ⟨_, rfl⟩
    have gr0 : Gro h g0 := by rw [← hg0]; exact .new
    have n0 : g0.next = h.next + 1 := by rw [← hg0, new_next]
    have q0 : g0.get h.next = some (.lst []) := by rw [← hg0]; exact new_get_at ..
    (rw [show Z.S.from LnB 0 = .seq (Z.S.from LnB 0).hd (Z.S.from LnB 1) from rfl]; generalize hKK : Z.S.from LnB 1 = KK; simp_arith! [LnB, F_l_numbers_of, Z.S.bd, Z.S.hd, Z.S.tl, Z.S.from, hg0]; subst hKK)
    by_cases he : z = Str.ofString ""
    · have : lnums z = [] := if_pos he
      have fin : R (some (.ok (.ref h.next), g0)) := by
        rw [← hR]
        exact ⟨g0, h.next, rfl, gr0, by omega, by rw [this]; exact q0, by rw [this]; exact Nat.zero_le _⟩
      subst he
      simp_arith! [LnB, F_l_numbers_of, Z.S.bd, Z.S.hd, Z.S.tl, Z.S.from, Ends]
      exact fin
    · have hl : lnums z = (Txt.split z (Str.ofString " ")).map lnum := if_neg he
      obtain ⟨sl, sp⟩ := split_len z (Str.ofString " ") (by decide +kernel)
      obtain ⟨ps, hps⟩ : ∃ ps, Txt.split z (Str.ofString " ") = ps := ⟨_, rfl⟩
      obtain ⟨g1, hg1⟩ : ∃ g1, g0.new (.lst ((Txt.split z (Str.ofString " ")).map D.str)) = g1 := ⟨_, rfl⟩
      have gr1 : Gro g0 g1 := by rw [← hg1]; exact .new
      have n1 : g1.next = g0.next + 1 := by rw [← hg1, new_next]
      have q1 : g1.get g0.next = some (.lst ((Txt.split z (Str.ofString " ")).map D.str)) := by rw [← hg1]; exact new_get_at ..
      have bs : bmD .split (.str z) [.str (Str.ofString " ")] g0 = some (.ok (.ref g0.next), g1) := by
        rw [bm_split ⟨by decide +kernel, by omega⟩, ← hg1] <;> rfl
      rw [hps] at hl sl sp q1
      (rw [show Z.S.from LnB 1 = .seq (Z.S.from LnB 1).hd (Z.S.from LnB 2) from rfl]; generalize hKK : Z.S.from LnB 2 = KK; simp_arith! [LnB, F_l_numbers_of, Z.S.bd, Z.S.hd, Z.S.tl, Z.S.from, he]; subst hKK)
      rw [show LnB.from 2 = .seq (.for_ (.name 2) .seq (.cons (.bm .split (.var 0) (.cons (.con (.str " ")) (.nil))) .nil) (LnB.from 2).hd.bd) (LnB.from 3) from rfl]
      refine for_seq (Ends R) (h1 := g1) (vs := [.ref g0.next]) (cs := ps) (gd := [(g0.next, .lst (ps.map D.str))]) D.str (fun d env g => (∃ v2, env = [some (.str z), some (.ref h.next), v2]) ∧ Gro h g ∧ g0.next < g.next ∧ g.get g0.next = some (.lst (ps.map D.str)) ∧ g.get h.next = some (.lst ((d.map lnum).map D.int))) ?_ ?_ ⟨⟨_, rfl⟩, gr0.trans gr1, by omega, q1, gr1.get q0 (by omega)⟩ ?_ ?_ ?_
      · simp_arith! [bs]
      · simp_arith [q1]
      · rintro d env g ⟨_, _, l, q, _⟩
        rw [stays_cons]; exact ⟨q, stays_nil _⟩
      · rintro d c rest env g hcs ⟨⟨v2, rfl⟩, gr, l, q, qd⟩
        refine ⟨_, rfl, ?_⟩
        have e := c_lnumber_of n c (by have := sp c (by rw [hcs]; simp); omega) g
        have ld : d.length < 1000000 := by
          have : ps.length = d.length + (rest.length + 1) := by rw [hcs]; simp
          omega
        have ne : g0.next ≠ h.next := by omega
        have ld2 : ((d.map lnum).map D.int).length < 1000000 := by simpa using ld
        obtain ⟨AC, hAC⟩ : ∃ AC, (d.map lnum).map D.int = AC := ⟨_, rfl⟩
        rw [hAC] at qd ld2
        obtain ⟨g', hg'⟩ : ∃ g', g.put h.next (.lst (AC ++ [D.int (lnum c)])) = g' := ⟨_, rfl⟩
        have res : Thru (fun env g => (∃ v2, env = [some (.str z), some (.ref h.next), v2]) ∧ Gro h g ∧ g0.next < g.next ∧ g.get g0.next = some (.lst (ps.map D.str)) ∧ g.get h.next = some (.lst (((d ++ [c]).map lnum).map D.int))) (some (.nx, [some (.str z), some (.ref h.next), some (.str c)], g')) := by
          refine Thru.nx ⟨⟨_, rfl⟩, ?_, ?_, ?_, ?_⟩
          · rw [← hg']; exact gr.put (Nat.le_refl _)
          · rw [← hg', put_next]; exact l
          · rw [← hg', put_get, if_neg ne]; exact q
          · rw [← hg', put_get, if_pos rfl, ← hAC]; simp
        obtain ⟨I, hI⟩ : ∃ I : Env → Hm → Prop, (fun env g => (∃ v2, env = [some (.str z), some (.ref h.next), v2]) ∧ Gro h g ∧ g0.next < g.next ∧ g.get g0.next = some (.lst (ps.map D.str)) ∧ g.get h.next = some (.lst (((d ++ [c]).map lnum).map D.int))) = I := ⟨_, rfl⟩
        rw [hI] at res ⊢
        generalize lnum c = v at e hg'
        simp_arith! [LnB, F_l_numbers_of, Z.S.from, Z.S.tl, Z.S.hd, Z.S.bd, e, qd, ld2, hg']
        exact res
      · rintro env g ⟨⟨v2, rfl⟩, gr, l, q, qd⟩
        have fin : R (some (.ok (.ref h.next), g)) := by
          rw [← hR]
          exact ⟨g, h.next, rfl, gr, by omega, by rw [hl]; exact qd, by rw [hl, List.length_map]; omega⟩
        simp_arith! [LnB, F_l_numbers_of, Z.S.bd, Z.S.hd, Z.S.tl, Z.S.from, Ends]
        exact fin
  rw [← hR] at goal
  exact goal
theorem nof_U {z : Str} {v : Int} (h : nof z = some v) : U v := by
  unfold nof at h
  split at h
  · rename_i q
    cases h
    exact ⟨Int.natCast_nonneg _, q.2.2.2.2⟩
  · cases h
theorem lnum_some {z : Str} {v : Int} (h : nof z = some v) : lnum z = v := by unfold lnum; rw [h]; rfl
theorem lnum_none {z : Str} (h : nof z = none) : lnum z = -1 := by unfold lnum; rw [h]; rfl
theorem mapO_lnum : ∀ ps : List Str, (∀ us, mapO nof ps = some us → ps.map lnum = us ∧ ∀ v ∈ us, U v) ∧ (mapO nof ps = none → ∃ p ∈ ps, lnum p = -1)
  | [] => ⟨fun us e => by cases e; exact ⟨rfl, fun v hv => by cases hv⟩, fun e => by cases e⟩
  | p :: ps => by
    obtain ⟨i1, i2⟩ := mapO_lnum ps
    cases hp : nof p with
    | none =>
      have hm : mapO nof (p :: ps) = none := by simp only [mapO, hp]
      exact ⟨fun us e => (by rw [hm] at e; cases e), fun _ => ⟨p, List.mem_cons_self .., lnum_none hp⟩⟩
    | some v =>
      cases hq : mapO nof ps with
      | none =>
        have hm : mapO nof (p :: ps) = none := by simp only [mapO, hp, hq]
        obtain ⟨x, hx, ex⟩ := i2 hq
        exact ⟨fun us e => (by rw [hm] at e; cases e), fun _ => ⟨x, List.mem_cons_of_mem _ hx, ex⟩⟩
      | some vs =>
        have hm : mapO nof (p :: ps) = some (v :: vs) := by simp only [mapO, hp, hq]
        obtain ⟨j1, j2⟩ := i1 vs hq
        refine ⟨fun us e => ?_, fun e => by rw [hm] at e; cases e⟩
        rw [hm] at e
        cases e
        refine ⟨by rw [List.map_cons, lnum_some hp, j1], fun w hw => ?_⟩
        rcases List.mem_cons.mp hw with rfl | hw
        · exact nof_U hp
        · exact j2 w hw
theorem lmin_le (d : Int) : ∀ xs : List Int, ∀ x ∈ xs, lmin d xs ≤ x
  | [], x, hx => by cases hx
  | y :: r, x, hx => lfold_le r y x hx
theorem lmin_ge (d : Int) (hd : 0 ≤ d) (xs : List Int) (h : ∀ x ∈ xs, 0 ≤ x) : 0 ≤ lmin d xs := by
  cases xs with
  | nil => exact hd
  | cons y r => exact h _ (lfold_mem r y)
theorem pnum_ok {z : Str} {us : List Int} (h : pnum z = some us) : lnums z = us ∧ 0 ≤ lmin 0 (lnums z) ∧ ∀ v ∈ us, U v := by
  unfold pnum at h
  unfold lnums
  split at h
  · rename_i e
    cases h
    rw [if_pos e]
    exact ⟨rfl, lmin_ge 0 (Int.le_refl _) _ (fun x hx => by cases hx), fun v hv => by cases hv⟩
  · rename_i e
    obtain ⟨j1, j2⟩ := (mapO_lnum _).1 us h
    rw [if_neg e, j1]
    exact ⟨rfl, lmin_ge 0 (Int.le_refl _) _ (fun x hx => (j2 x hx).1), j2⟩
theorem pnum_bad {z : Str} (h : pnum z = none) : lmin 0 (lnums z) < 0 := by
  unfold pnum at h
  unfold lnums
  split at h
  · cases h
  · rename_i e
    obtain ⟨p, hp, ep⟩ := (mapO_lnum _).2 h
    rw [if_neg e]
    have := lmin_le 0 _ (lnum p) (List.mem_map.mpr ⟨p, hp, rfl⟩)
    omega
abbrev LpB : Z.S := F_l_paper_of.body
theorem c_lpaper_of (n : Nat) (z : Str) (hz : z.length ≤ 10000) (h : Hm) :
    ∃ g a b, callF PR (n + 3) "_law_paper_of" [.str z] h = some (.ok (match papO z with
      | some q => .tup [.int q.1, .ref a, .ref b]
      | none => .non), g) ∧ Gro h g ∧ a < g.next ∧ b < g.next ∧ ∀ q, papO z = some q → g.get a = some (.lst (q.2.1.map D.int)) ∧ g.get b = some (.lst (q.2.2.map D.int)) := by
  rw [callF_eq fn_l_paper_of rfl]
  obtain ⟨R, hR⟩ : ∃ R : Res D → Prop, (fun r => ∃ g a b, r = some (.ok (match papO z with
      | some q => .tup [.int q.1, .ref a, .ref b]
      | none => .non), g) ∧ Gro h g ∧ a < g.next ∧ b < g.next ∧ ∀ q, papO z = some q → g.get a = some (.lst (q.2.1.map D.int)) ∧ g.get b = some (.lst (q.2.2.map D.int))) = R := ⟨_, rfl⟩
  have bad : ∀ g, Gro h g → h.next < g.next → papO z = none → R (some (.ok .non, g)) := fun g gr l e => by
    rw [← hR]
    refine ⟨g, 0, 0, by rw [e], gr, by omega, by omega, fun q eq => by rw [e] at eq; cases eq⟩
  have goal : Ends R (ex PR (callF PR (n + 2)) (LpB.from 0) (start F_l_paper_of.ns [.str z]) h) := by
    obtain ⟨sl, sp⟩ := split_len z (Str.ofString " / ") (by decide +kernel)
    obtain ⟨g1, hg1⟩ : ∃ g1, h.new (.lst ((Txt.split z (Str.ofString " / ")).map D.str)) = g1 := ⟨_, rfl⟩
    have gr1 : Gro h g1 := by rw [← hg1]; exact .new
    have n1 : g1.next = h.next + 1 := by rw [← hg1, new_next]
    have q1 : g1.get h.next = some (.lst ((Txt.split z (Str.ofString " / ")).map D.str)) := by rw [← hg1]; exact new_get_at ..
    have bs : bmD .split (.str z) [.str (Str.ofString " / ")] h = some (.ok (.ref h.next), g1) := by
      rw [bm_split ⟨by decide +kernel, by omega⟩, ← hg1] <;> rfl
    obtain ⟨ps, hps⟩ : ∃ ps, Txt.split z (Str.ofString " / ") = ps := ⟨_, rfl⟩
    have hp := papO.eq_1 z
    rw [hps] at hp
    rw [hps] at q1 sl sp
    (rw [show Z.S.from LpB 0 = .seq (Z.S.from LpB 0).hd (Z.S.from LpB 1) from rfl]; generalize hKK : Z.S.from LpB 1 = KK; simp_arith! [LpB, F_l_paper_of, Z.S.bd, Z.S.hd, Z.S.tl, Z.S.from, bs]; subst hKK)
    by_cases h3 : ps.length = 3
    · obtain ⟨x, y, w, rfl⟩ : ∃ x y w, ps = [x, y, w] := by
        match ps, h3 with
        | [x, y, w], _ => exact ⟨x, y, w, rfl⟩
      have q1 : g1.get h.next = some (.lst [.str x, .str y, .str w]) := q1
      have lx := sp x (by simp)
      have ly := sp y (by simp)
      have lw := sp w (by simp)
      have er := c_lnumber_of (n + 1) x (by omega) g1
      have hp : papO z = (match nof x, pnum y, pnum w with
        | some k, some us, some vs => if vs.length ≤ 60 then some (k, us, vs) else none
        | _, _, _ => none) := hp
      obtain ⟨g2, a, e2, gr2, a2, qa, la⟩ := c_lnumbers_of n y (by omega) g1
      have q12 := gr2.get q1 (by omega)
      obtain ⟨g3, b, e3, gr3, b2, qb, lb⟩ := c_lnumbers_of n w (by omega) g2
      have qa3 := gr3.get qa a2
      have ma := bi_minD (d := 0) qa3
      have mb := bi_minD (d := 0) qb
      obtain ⟨v, hv⟩ : ∃ v, lnum x = v := ⟨_, rfl⟩
      obtain ⟨m1, hm1⟩ : ∃ m, lmin 0 (lnums y) = m := ⟨_, rfl⟩
      obtain ⟨m2, hm2⟩ : ∃ m, lmin 0 (lnums w) = m := ⟨_, rfl⟩
      rw [hv] at er
      rw [hm1] at ma
      rw [hm2] at mb
      have lB : ((lnums w).map D.int).length = (lnums w).length := List.length_map ..
      obtain ⟨LB, hLB⟩ : ∃ LB, (lnums w).map D.int = LB := ⟨_, rfl⟩
      rw [hLB] at qb lB
      have grr := (gr1.trans gr2).trans gr3
      have l13 : h.next < g3.next := by have := gr2.le; have := gr3.le; omega
      (rw [show Z.S.from LpB 1 = .seq (Z.S.from LpB 1).hd (Z.S.from LpB 2) from rfl]; generalize hKK : Z.S.from LpB 2 = KK; simp_arith! [LpB, F_l_paper_of, Z.S.bd, Z.S.hd, Z.S.tl, Z.S.from, q1]; subst hKK)
      (rw [show Z.S.from LpB 2 = .seq (Z.S.from LpB 2).hd (Z.S.from LpB 3) from rfl]; generalize hKK : Z.S.from LpB 3 = KK; simp_arith! [LpB, F_l_paper_of, Z.S.bd, Z.S.hd, Z.S.tl, Z.S.from, q1, er]; subst hKK)
      (rw [show Z.S.from LpB 3 = .seq (Z.S.from LpB 3).hd (Z.S.from LpB 4) from rfl]; generalize hKK : Z.S.from LpB 4 = KK; simp_arith! [LpB, F_l_paper_of, Z.S.bd, Z.S.hd, Z.S.tl, Z.S.from, q1, e2]; subst hKK)
      (rw [show Z.S.from LpB 4 = .seq (Z.S.from LpB 4).hd (Z.S.from LpB 5) from rfl]; generalize hKK : Z.S.from LpB 5 = KK; simp_arith! [LpB, F_l_paper_of, Z.S.bd, Z.S.hd, Z.S.tl, Z.S.from, q12, e3]; subst hKK)
      by_cases c1 : v < 0
      · have : nof x = none := by
          cases hx : nof x with
          | none => rfl
          | some k => have := lnum_some hx; have := (nof_U hx).1; omega
        rw [this] at hp
        have := bad g3 grr l13 hp
        simp_arith! [LpB, F_l_paper_of, Z.S.bd, Z.S.hd, Z.S.tl, Z.S.from, c1, Ends]
        exact this
      by_cases c2 : m1 < 0
      · have : pnum y = none := by
          cases hx : pnum y with
          | none => rfl
          | some k => have := (pnum_ok hx).2.1; omega
        rw [this] at hp
        have hp : papO z = none := by rw [hp]; cases nof x <;> rfl
        have := bad g3 grr l13 hp
        simp_arith! [LpB, F_l_paper_of, Z.S.bd, Z.S.hd, Z.S.tl, Z.S.from, c1, ma, c2, Ends]
        exact this
      by_cases c3 : m2 < 0
      · have : pnum w = none := by
          cases hx : pnum w with
          | none => rfl
          | some k => have := (pnum_ok hx).2.1; omega
        rw [this] at hp
        have hp : papO z = none := by rw [hp]; cases nof x <;> cases pnum y <;> rfl
        have := bad g3 grr l13 hp
        simp_arith! [LpB, F_l_paper_of, Z.S.bd, Z.S.hd, Z.S.tl, Z.S.from, c1, ma, c2, mb, c3, Ends]
        exact this
      obtain ⟨k, hk⟩ : ∃ k, nof x = some k := by
        cases hx : nof x with
        | none => have := lnum_none hx; omega
        | some k => exact ⟨k, rfl⟩
      obtain ⟨us, hus⟩ : ∃ us, pnum y = some us := by
        cases hx : pnum y with
        | none => have := pnum_bad hx; omega
        | some k => exact ⟨k, rfl⟩
      obtain ⟨vs, hvs⟩ : ∃ vs, pnum w = some vs := by
        cases hx : pnum w with
        | none => have := pnum_bad hx; omega
        | some k => exact ⟨k, rfl⟩
      have e1 := (pnum_ok hus).1
      have e2' := (pnum_ok hvs).1
      have hkv : k = v := by rw [← hv, lnum_some hk]
      rw [hk, hus, hvs] at hp
      have hp : papO z = if vs.length ≤ 60 then some (k, us, vs) else none := hp
      have lv : (lnums w).length = vs.length := by rw [e2']
      by_cases h60 : vs.length ≤ 60
      · rw [if_pos h60] at hp
        have l60 : ¬ (60 : Int) < (LB.length : Int) := by omega
        have l61 : ¬ 60 < LB.length := by omega
        have fin : R (some (.ok (.tup [.int v, .ref a, .ref b]), g3)) := by
          rw [← hR]
          exact ⟨g3, a, b, by rw [hp, ← hkv], grr, by have := gr3.le; omega, b2, fun q eq => by
            rw [hp] at eq; cases eq
            exact ⟨by rw [← e1]; exact qa3, by rw [qb, ← hLB, e2']⟩⟩
        (rw [show Z.S.from LpB 5 = .seq (Z.S.from LpB 5).hd (Z.S.from LpB 6) from rfl]; generalize hKK : Z.S.from LpB 6 = KK; simp_arith! [LpB, F_l_paper_of, Z.S.bd, Z.S.hd, Z.S.tl, Z.S.from, c1, ma, c2, mb, c3, qb, l60, l61]; subst hKK)
        simp_arith! [LpB, F_l_paper_of, Z.S.bd, Z.S.hd, Z.S.tl, Z.S.from, Ends]
        exact fin
      · rw [if_neg h60] at hp
        have l60 : (60 : Int) < (LB.length : Int) := by omega
        have l61 : 60 < LB.length := by omega
        have := bad g3 grr l13 hp
        simp_arith! [LpB, F_l_paper_of, Z.S.bd, Z.S.hd, Z.S.tl, Z.S.from, c1, ma, c2, mb, c3, qb, l60, l61, Ends]
        exact this
    · have hp : papO z = none := by
        rw [hp]
        match ps, h3 with
        | [], _ => rfl
        | [_], _ => rfl
        | [_, _], _ => rfl
        | [_, _, _], h3 => exact absurd rfl h3
        | _ :: _ :: _ :: _ :: _, _ => rfl
      have := bad g1 gr1 (by omega) hp
      have lp : (ps.map D.str).length = ps.length := List.length_map ..
      have h3' : ¬ (ps.length : Int) = 3 := by omega
      generalize ps.map D.str = PD at q1 lp
      simp_arith! [LpB, F_l_paper_of, Z.S.bd, Z.S.hd, Z.S.tl, Z.S.from, q1, lp, h3', Ends]
      exact this
  rw [← hR] at goal
  exact goal
--CUT
theorem sh_paper (p : Int) (us w : List Int) : SeqAt.shaped (.tuple [.int p, .list (us.map PyData.int), .list (w.map PyData.int)]) = true := by
  simp only [SeqAt.shaped, PyData.canLay0, PyData.canLayAll0, PyData.depth, PyData.depthAll, lay_ints, dep_ints, Bool.and_self]
  rfl
theorem eq_paper (p : Int) (us w : List Int) (a b c d : Nat) (h : Hm) (ha : h.get a = some (.lst (us.map D.int))) (hb : h.get b = some (.lst (w.map D.int))) (hc : h.get c = some (.lst (us.map D.int))) (hd : h.get d = some (.lst (w.map D.int))) :
    eqPP (dat h 30 (.tup [.int p, .ref a, .ref b])) (dat h 30 (.tup [.int p, .ref c, .ref d])) = some true := by
  have sh := sh_paper p us w
  have e : ∀ x y : Nat, h.get x = some (.lst (us.map D.int)) → h.get y = some (.lst (w.map D.int)) → dat h 30 (.tup [.int p, .ref x, .ref y]) = some (.tuple [.int p, .list (us.map PyData.int), .list (w.map PyData.int)]) := fun x y hx hy => by
    rw [dat_tup]
    have : mapO (dat h 29) [D.int p, .ref x, .ref y] = some [PyData.int p, .list (us.map PyData.int), .list (w.map PyData.int)] :=
      mapO_cons _ _ _ (dat_int p) (mapO_cons _ _ _ (by rw [dat_ref, hx, datO_l, mapO_ints]; rfl) (mapO_cons _ _ _ (by rw [dat_ref, hy, datO_l, mapO_ints]; rfl) rfl))
    rw [this]; rfl
  rw [e a b ha hb, e c d hc hd, eqPP_self _ sh]
theorem c_lwhole (n : Nat) (v : Int) (h : Hm) : callF PR (n + 1) "_law_whole" [.int v] h = some (.ok (.bl true), h) := by
  rw [callF_eq fn_l_whole rfl]
  simp_arith [F_l_whole]
abbrev LiB : Z.S := F_l_is.body
theorem c_lis (n : Nat) (p : Int) (us w : List Int) (a b c d : Nat) (h : Hm) (ha : h.get a = some (.lst (us.map D.int))) (hb : h.get b = some (.lst (w.map D.int))) (hc : h.get c = some (.lst (us.map D.int))) (hd : h.get d = some (.lst (w.map D.int))) :
    callF PR (n + 2) "_law_is" [.tup [.int p, .ref a, .ref b], .tup [.int p, .ref c, .ref d]] h = some (.ok (.bl true), h) := by
  rw [callF_eq fn_l_is rfl]
  obtain ⟨R, hR⟩ : ∃ R : Res D → Prop, (fun r => r = some (.ok (.bl true), h)) = R := ⟨_, rfl⟩
  have goal : Ends R (ex PR (callF PR (n + 1)) (LiB.from 0) (start F_l_is.ns [.tup [.int p, .ref a, .ref b], .tup [.int p, .ref c, .ref d]]) h) := by
    have fin : R (some (.ok (.bl true), h)) := by rw [← hR]
    have ep := eq_paper p us w a b c d h ha hb hc hd
    have ew := c_lwhole n p h
    (rw [show Z.S.from LiB 0 = .seq (Z.S.from LiB 0).hd (Z.S.from LiB 1) from rfl]; generalize hKK : Z.S.from LiB 1 = KK; simp_arith! [LiB, F_l_is, Z.S.bd, Z.S.hd, Z.S.tl, Z.S.from, ew]; subst hKK)
    obtain ⟨X, hX⟩ : ∃ X : D, .tup [.int p, .ref a, .ref b] = X := ⟨_, rfl⟩
    obtain ⟨Y, hY⟩ : ∃ Y : D, .tup [.int p, .ref c, .ref d] = Y := ⟨_, rfl⟩
    rw [show LiB.from 1 = .seq (.for_ (.name 2) .seq (.cons (.slc (.var 0) (.some (.con (.int 1))) .none) .nil) (LiB.from 1).hd.bd) (LiB.from 2) from rfl]
    refine for_seq (Ends R) (h1 := h) (vs := [.tup [.ref a, .ref b]]) (cs := [(a, us), (b, w)]) (gd := []) (fun q => D.ref q.1) (fun dn env g => g = h ∧ ∃ v2 v3, env = [some (.tup [.int p, .ref a, .ref b]), some (.tup [.int p, .ref c, .ref d]), v2, v3]) ?_ ?_ ⟨rfl, _, _, rfl⟩ (fun _ _ _ _ => stays_nil _) ?_ ?_
    · simp_arith! []
      rfl
    · rfl
    · rintro dn q rest env g hcs ⟨rfl, v2, v3, rfl⟩
      have hq : g.get q.1 = some (.lst (q.2.map D.int)) := by
        have : q ∈ [(a, us), (b, w)] := by rw [hcs]; simp
        rcases List.mem_cons.mp this with rfl | this
        · exact ha
        · rw [List.mem_singleton.mp this]; exact hb
      refine ⟨_, rfl, ?_⟩
      obtain ⟨x, L⟩ := q
      dsimp only at hq ⊢
      rw [hX, hY]
      have t0 : ex PR (callF PR (n + 1)) (LiB.from 1).hd.bd.hd [some X, some Y, some (.ref x), v3] g = some (.nx, [some X, some Y, some (.ref x), v3], g) := by
        simp_arith! [LiB, F_l_is, Z.S.from, Z.S.tl, Z.S.hd, Z.S.bd, hq]
      rw [show (LiB.from 1).hd.bd = .seq (LiB.from 1).hd.bd.hd (.for_ (.name 3) .seq (.cons (.var 2) .nil) (.ite (.not (.tru (.call "_law_whole" (.cons (.var 3) (.nil)) []))) (.ret (.con (.bl false))) (.skip))) from rfl]
      have t0' : ex PR (callF PR (n + 1)) (LiB.from 1).hd.bd.hd (List.set [some X, some Y, v2, v3] 2 (some (.ref x))) g = some (.nx, [some X, some Y, some (.ref x), v3], g) := t0
      obtain ⟨env', g', e1, i1⟩ := forL_rel (fb := fun e1 h2 => ex PR (callF PR (n + 1)) (.ite (.not (.tru (.call "_law_whole" (.cons (.var 3) (.nil)) []))) (.ret (.con (.bl false))) (.skip)) e1 h2) (g := .name 3) (gd := [(x, .lst (L.map D.int))]) (cs := L) (env := [some X, some Y, some (.ref x), v3]) (h := g) D.int (fun dn env g' => g' = g ∧ ∃ v3, env = [some X, some Y, some (.ref x), v3]) ⟨rfl, _, rfl⟩ (by
        rintro _ _ _ ⟨rfl, _⟩
        rw [stays_cons]; exact ⟨hq, stays_nil _⟩) (by
        rintro dn v rest env g' hcs ⟨rfl, v3, rfl⟩
        refine ⟨_, rfl, [some X, some Y, some (.ref x), some (.int v)], g', ?_, rfl, _, rfl⟩
        have ew := c_lwhole n v g'
        simp_arith! [ew])
      obtain ⟨rfl, v3', rfl⟩ := i1
      refine ⟨[some X, some Y, some (.ref x), v3'], g', ?_, rfl, _, _, rfl⟩
      have t0'' := seq_nx (b := .for_ (.name 3) .seq (.cons (.var 2) .nil) (.ite (.not (.tru (.call "_law_whole" (.cons (.var 3) (.nil)) []))) (.ret (.con (.bl false))) (.skip))) t0'
      refine Eq.trans t0'' ?_
      rw [ex_for_eq (h1 := g') (vs := [.ref x]) (items := L.map D.int) (gd := [(x, .lst (L.map D.int))]) (by simp_arith! []) (by simp_arith [hq])]
      exact e1
    · rintro env g ⟨rfl, v2, v3, rfl⟩
      rw [hX, hY] at ep ⊢
      have ec : cmpD .eq X Y g = some true := by rw [← hX, ← hY, eq_tt, hX, hY]; exact ep
      simp_arith! [LiB, F_l_is, Z.S.bd, Z.S.hd, Z.S.tl, Z.S.from, ec, Ends]
      exact fin
  rw [← hR] at goal
  exact goal
theorem c_refused (n : Nat) (z : Str) (hz : z.length ≤ 10000) (h : Hm) (hp : papO z = none) : ∃ g, callF PR (n + 5) "_law_refused_by_any" [.str z] h = some (.ok (.bl true), g) ∧ Gro h g := by
  rw [callF_eq fn_l_refused_by_any rfl]
  obtain ⟨h1, hh1⟩ : ∃ h1, h.new (.lst []) = h1 := ⟨_, rfl⟩
  have gr1 : Gro h h1 := by rw [← hh1]; exact .new
  obtain ⟨h2, _, _, cn, gr2, _, _, _⟩ := c_read_paper n z hz h1
  rw [hp] at cn
  have cn : callF PR (n + 4) "read_paper" [.str z] h1 = some (.error "NoPaper", h2) := cn
  have hb : F_l_refused_by_any.body = .seq F_l_refused_by_any.body.hd (.seq (F_l_refused_by_any.body.from 1).hd (F_l_refused_by_any.body.from 2)) := rfl
  rw [hb]
  have t0 : ex PR (callF PR (n + 4)) F_l_refused_by_any.body.hd (start F_l_refused_by_any.ns [.str z]) h = some (.nx, [some (.str z), some (.ref h.next), none], h1) := by simp_arith [F_l_refused_by_any, Z.S.hd, hh1]
  rw [seq_nx t0]
  have t1 : ∃ h3 k, ex PR (callF PR (n + 4)) (F_l_refused_by_any.body.from 1).hd [some (.str z), some (.ref h.next), none] h1 = some (.nx, [some (.str z), some (.ref k), none], h3) ∧ Gro h2 h3 ∧ k < h3.next ∧ h3.get k = some (.lst [.bl true, .bl true, .bl false, .bl false, .bl false, .bl false, .bl false, .bl false, .bl false, .bl false, .bl false, .bl false, .bl false]) := by
    refine ⟨((((((h2.new (.lst [.bl true, .bl true, .bl false, .bl false])).new (.lst [.bl false, .bl false, .bl false, .bl false])).new (.lst [.bl true, .bl true, .bl false, .bl false, .bl false, .bl false, .bl false, .bl false])).new (.lst [.bl false, .bl false, .bl false])).new (.lst [.bl true, .bl true, .bl false, .bl false, .bl false, .bl false, .bl false, .bl false, .bl false, .bl false, .bl false])).new (.lst [.bl false, .bl false])).new (.lst [.bl true, .bl true, .bl false, .bl false, .bl false, .bl false, .bl false, .bl false, .bl false, .bl false, .bl false, .bl false, .bl false]), h2.next + 6, ?_, (((((Gro.new.trans .new).trans .new).trans .new).trans .new).trans .new).trans .new, by simp only [new_next]; omega, by rw [new_get, if_pos (by rfl)]⟩
    have eb : ex PR (callF PR (n + 4)) (.drop (.call "read_paper" (.cons (.var 0) (.nil)) [])) [some (.str z), some (.ref h.next), none] h1 = some (.ex "NoPaper", [some (.str z), some (.ref h.next), none], h2) := by simp_arith [cn]
    refine ex_try_as eb em_NoPaper_HouseError fun k => ⟨[some (.str z), some (.ref (h2.next + 6)), some (.exc "NoPaper" k)], ?_, rfl⟩
    simp_arith []
  obtain ⟨h3, k, e2, gr3, lk, q2⟩ := t1
  rw [seq_nx e2]
  have db : ∀ H : Hm, mapO (dat H 29) [.bl true, .bl true, .bl false, .bl false, .bl false, .bl false, .bl false, .bl false, .bl false, .bl false, .bl false, .bl false, .bl false] = some [.bool true, .bool true, .bool false, .bool false, .bool false, .bool false, .bool false, .bool false, .bool false, .bool false, .bool false, .bool false, .bool false] := fun H => rfl
  have ep : eqPP (some (PyData.list [.bool true, .bool true, .bool false, .bool false, .bool false, .bool false, .bool false, .bool false, .bool false, .bool false, .bool false, .bool false, .bool false])) (some (PyData.list [.bool true, .bool true, .bool false, .bool false, .bool false, .bool false, .bool false, .bool false, .bool false, .bool false, .bool false, .bool false, .bool false])) = some true := eqPP_self _ (by decide +kernel)
  refine ⟨(((h3.new (.lst [.bl true, .bl true])).new (.lst [.bl false])).new (.lst [.bl false, .bl false, .bl false, .bl false, .bl false, .bl false, .bl false, .bl false, .bl false, .bl false, .bl false])).new (.lst [.bl true, .bl true, .bl false, .bl false, .bl false, .bl false, .bl false, .bl false, .bl false, .bl false, .bl false, .bl false, .bl false]), ?_, ((gr1.trans gr2).trans gr3).trans (((Gro.new.trans .new).trans .new).trans .new)⟩
  simp_arith [F_l_refused_by_any, Z.S.from, Z.S.tl, q2]
  rw [db, Option.map_some, ep]
  rfl
theorem c_lread (n : Nat) (z : Str) (hz : z.length ≤ 10000) (h : Hm) : ∃ g, callF PR (n + 6) "_law_read" [.str z] h = some (.ok (.bl true), g) ∧ Gro h g := by
  rw [callF_eq fn_l_read rfl]
  obtain ⟨g1, a, b, e1, gr1, a1, b1, q1⟩ := c_read_paper (n + 1) z hz h
  obtain ⟨g2, c, d, e2, gr2, c1, d1, q2⟩ := c_lpaper_of (n + 2) z hz g1
  have hb : F_l_read.body = .seq F_l_read.body.hd (.seq (F_l_read.body.from 1).hd (.seq (F_l_read.body.from 2).hd (F_l_read.body.from 3))) := rfl
  rw [hb]
  have t0 : ex PR (callF PR (n + 5)) F_l_read.body.hd (start F_l_read.ns [.str z]) h = some (.nx, [some (.str z), some .non, none, none], h) := by simp_arith [F_l_read, Z.S.hd]
  have t1 : ex PR (callF PR (n + 5)) (F_l_read.body.from 1).hd [some (.str z), some .non, none, none] h = some (.nx, [some (.str z), some .non, some (.bl false), none], h) := by simp_arith [F_l_read, Z.S.hd, Z.S.from, Z.S.tl]
  rw [seq_nx t0, seq_nx t1]
  cases hp : papO z with
  | none =>
    rw [hp] at e1 e2
    have e1 : callF PR (n + 5) "read_paper" [.str z] h = some (.error "NoPaper", g1) := e1
    have e2 : callF PR (n + 5) "_law_paper_of" [.str z] g1 = some (.ok .non, g2) := e2
    obtain ⟨g3, e3, gr3⟩ := c_refused n z hz g2 hp
    have eb : ex PR (callF PR (n + 5)) (.asg 1 (.call "read_paper" (.cons (.var 0) (.nil)) [])) [some (.str z), some .non, some (.bl false), none] h = some (.ex "NoPaper", [some (.str z), some .non, some (.bl false), none], g1) := by simp_arith [e1]
    have t2 : ex PR (callF PR (n + 5)) (F_l_read.body.from 2).hd [some (.str z), some .non, some (.bl false), none] h = some (.nx, [some (.str z), some .non, some (.bl true), none], g1) := ex_try_ex eb em_NoPaper_NoPaper (by simp_arith [])
    rw [seq_nx t2]
    refine ⟨g3, ?_, (gr1.trans gr2).trans gr3⟩
    simp_arith! [F_l_read, Z.S.from, Z.S.tl, e2, e3]
  | some q =>
    obtain ⟨qa, qb⟩ := q1 q hp
    obtain ⟨qc, qd⟩ := q2 q hp
    rw [hp] at e1 e2
    have e1 : callF PR (n + 5) "read_paper" [.str z] h = some (.ok (.tup [.int q.1, .ref a, .ref b]), g1) := e1
    have e2 : callF PR (n + 5) "_law_paper_of" [.str z] g1 = some (.ok (.tup [.int q.1, .ref c, .ref d]), g2) := e2
    have e3 := c_lis (n + 3) q.1 q.2.1 q.2.2 a b c d g2 (gr2.get qa a1) (gr2.get qb b1) qc qd
    obtain ⟨X, hX⟩ : ∃ X : D, .tup [.int q.1, .ref a, .ref b] = X := ⟨_, rfl⟩
    obtain ⟨Y, hY⟩ : ∃ Y : D, .tup [.int q.1, .ref c, .ref d] = Y := ⟨_, rfl⟩
    have isY : cmpD .isN Y .non g2 = some false := by rw [← hY]; rfl
    rw [hX] at e1 e3
    rw [hY] at e2 e3
    have eb : ex PR (callF PR (n + 5)) (.asg 1 (.call "read_paper" (.cons (.var 0) (.nil)) [])) [some (.str z), some .non, some (.bl false), none] h = some (.nx, [some (.str z), some X, some (.bl false), none], g1) := by simp_arith [e1]
    have t2 : ex PR (callF PR (n + 5)) (F_l_read.body.from 2).hd [some (.str z), some .non, some (.bl false), none] h = some (.nx, [some (.str z), some X, some (.bl false), none], g1) := ex_try_nx eb
    rw [seq_nx t2]
    refine ⟨g2, ?_, gr1.trans gr2⟩
    simp_arith! [F_l_read, Z.S.from, Z.S.tl, e2, isY, e3]
--CUT
theorem num_digits (m : Nat) : NumText.AllDigits (Str.ofString (toString (m : Int))).cps.toList := by
  rw [PySem.W.KIN.signs_num]
  intro c hc
  obtain ⟨d, hd, rfl⟩ := List.mem_map.mp hc
  have := Nat.isDigit_of_mem_toDigits (by decide) (by decide) hd
  simp only [Char.isDigit, Bool.and_eq_true, decide_eq_true_eq] at this
  exact ⟨this.1, this.2⟩
theorem nof_num (v : Int) (h0 : 0 ≤ v) (h1 : v < 18446744073709551616) : nof (Str.ofString (toString v)) = some v := by
  obtain ⟨m, rfl⟩ := Int.eq_ofNat_of_zero_le h0
  have hs := PySem.W.KIN.signs_num m
  have hv : vl (Str.ofString (toString (m : Int))) = (m : Int) := by
    unfold vl; rw [hs, PySem.W.KIN.val_back]
  have hl : (Str.ofString (toString (m : Int))).length = (Nat.toDigits 10 m).length := by
    rw [← len_list, hs, List.length_map]
  have l1 := PySem.W.KLn.one_le (n := (m : Int)) h0
  have l2 : (Nat.toDigits 10 m).length ≤ 20 := (Nat.length_toDigits_le_iff (by decide) (by decide)).mpr (by omega)
  have ad := num_digits m
  unfold nof
  rw [if_pos, hv]
  refine ⟨l1, by omega, ?_, ?_, by rw [hv]; exact h1⟩
  · rw [List.all_eq_true]; intro c hc; simpa [dgB] using ad c hc
  · rintro ⟨z1, z2⟩
    have ta := NumText.toDigits_all _ ad
    have dv : NumText.digitsVal (Str.ofString (toString (m : Int))).cps.toList = m := by rw [hs, PySem.W.KIN.val_back]
    rw [dv] at ta
    generalize (Str.ofString (toString (m : Int))).cps.toList = cs at *
    cases cs with
    | nil => simp at z1
    | cons c r =>
      simp at z1
      subst z1
      have : (Nat.toDigits 10 m).length ≤ r.length ∨ (Nat.toDigits 10 m).length = 1 := by
        rw [ta]
        have hd : List.dropWhile (fun x => x == 48) (48 :: r) = List.dropWhile (fun x => x == 48) r := by simp
        rw [hd]
        cases e : List.dropWhile (fun x => x == 48) r with
        | nil => right; rfl
        | cons c' r' =>
          left
          have := (List.dropWhile_suffix (l := r) (fun x => x == 48)).length_le
          rw [e] at this
          simpa using this
      have hl2 : (Nat.toDigits 10 m).length = r.length + 1 := by
        have := congrArg List.length hs
        simp at this
        omega
      omega
theorem sum_le (ps : List Str) (B : Nat) (h : ∀ p ∈ ps, p.length ≤ B) : (ps.map (·.length)).sum ≤ ps.length * B := by
  induction ps with
  | nil => simp
  | cons p r ih =>
    have := h p (List.mem_cons_self ..)
    have := ih fun q hq => h q (List.mem_cons_of_mem _ hq)
    rw [List.map_cons, List.sum_cons, List.length_cons, Nat.succ_mul]
    omega
def num (v : Int) : Str := Str.ofString (toString v)
def spT (us : List Int) : Str := Txt.join (Str.ofString " ") (us.map num)
def papT (k : Int) (P W : List Int) : Str := Txt.join (Str.ofString " / ") [num k, spT P, spT W]
theorem num_u {v : Int} (h : U v) : (num v).length ≤ 20 := by
  obtain ⟨h0, h1⟩ := h
  have e := nof_num v h0 h1
  unfold nof at e
  split at e
  · rename_i z; exact z.2.1
  · cases e
theorem U_big {v : Int} (h : U v) : -(2 ^ 250) < v ∧ v < 2 ^ 250 := by
  obtain ⟨a, b⟩ := h
  omega
theorem spT_lenU {us : List Int} (hb : ∀ v ∈ us, U v) : (spT us).length ≤ us.length * 21 := by
  have h1 : (spT us).length ≤ ((us.map num).map (·.length)).sum + (us.map num).length * (Str.ofString " ").length := join_le _ _
  have sl := sum_le (us.map num) 20 (fun p hp => by
    obtain ⟨v, hv, rfl⟩ := List.mem_map.mp hp
    exact num_u (hb v hv))
  rw [sp_len] at h1
  rw [List.length_map] at h1 sl
  omega
theorem c_shown_numbersU (n : Nat) (us : List Int) (a : Nat) (h : Hm) (la : a < h.next) (ea : h.get a = some (.lst (us.map D.int))) (hb : ∀ v ∈ us, U v) (hl : us.length ≤ 200000) :
    ∃ g, callF PR (n + 1) "shown_numbers" [.ref a] h = some (.ok (.str (spT us)), g) ∧ Gro h g := by
  rw [callF_eq fn_shown_numbers rfl]
  obtain ⟨g1, e1, gr1, l1, q1⟩ := compL_gro (fe := fun e1 h2 => ev PR (callF PR n) (.bi .str (.cons (.var 1) (.nil))) e1 h2) (ft := fun e1 h2 => evT PR (callF PR n) .yes e1 h2) (g := .name 1) (gd := [(a, .lst (us.map D.int))]) (env := [some (.ref a), none]) (h := h) (cs := us) D.int (fun v => D.str (num v)) (fun h' g' => by rw [stays_cons]; exact ⟨g'.get ea la, stays_nil _⟩) (fun v hv => ⟨_, rfl, fun h' g' _ => ⟨by simp_arith [], h', by
    have eb : biD .str [.int v] h' = some (.ok (.str (num v)), h') := bi_str (U_big (hb v hv))
    generalize num v = z at eb
    simp_arith! [-bi_str, eb], .refl⟩⟩) (by omega)
  have ec : ev PR (callF PR n) (.comp (.bi .str (.cons (.var 1) (.nil))) [1] (.name 1) .seq (.cons (.var 0) .nil) (.yes)) [some (.ref a), none] h = some (.ok (.ref h.next), g1) := by
    rw [comp_ev (h1 := h) (vs := [.ref a]) (gd := [(a, .lst (us.map D.int))]) (items := us.map D.int) (by simp_arith []) (by simp_arith [ea]) rfl]
    exact e1
  have q1' : g1.get h.next = some (.lst ((us.map num).map D.str)) := by rw [q1, List.map_map]; rfl
  have sl := sum_le (us.map num) 20 (fun p hp => by
    obtain ⟨v, hv, rfl⟩ := List.mem_map.mp hp
    exact num_u (hb v hv))
  have j : bmD .join (.str (Str.ofString " ")) [.ref h.next] g1 = some (.ok (.str (spT us)), g1) := bm_join q1' (by
    rw [List.length_map] at sl ⊢
    rw [sp_len]
    omega)
  refine ⟨g1, ?_, gr1⟩
  generalize spT us = t at j
  have eb : F_shown_numbers.body = .ret (.bm .join (.con (.str " ")) (.cons (.comp (.bi .str (.cons (.var 1) (.nil))) [1] (.name 1) .seq (.cons (.var 0) .nil) (.yes)) (.nil))) := rfl
  obtain ⟨CE, hCE⟩ : ∃ y, Z.E.comp (.bi .str (.cons (.var 1) (.nil))) [1] (.name 1) .seq (.cons (.var 0) .nil) (.yes) = y := ⟨_, rfl⟩
  rw [eb]
  rw [hCE] at ec ⊢
  show endF (ex PR (callF PR n) (.ret (.bm .join (.con (.str " ")) (.cons CE (.nil)))) [some (.ref a), none] h) = _
  simp_arith! [ec, j]
theorem c_show_paperU (n : Nat) (k : Int) (P W : List Int) (a w : Nat) (h : Hm) (la : a < h.next) (lw : w < h.next) (ea : h.get a = some (.lst (P.map D.int))) (ew : h.get w = some (.lst (W.map D.int))) (kb : U k) (hb : ∀ v ∈ P, U v) (hw : ∀ v ∈ W, U v) (hl : P.length ≤ 200000) (wl : W.length ≤ 400) :
    ∃ g, callF PR (n + 2) "show_paper" [.tup [.int k, .ref a, .ref w]] h = some (.ok (.str (papT k P W)), g) ∧ Gro h g := by
  rw [callF_eq fn_show_paper rfl]
  obtain ⟨g1, e1, gr1⟩ := c_shown_numbersU n P a h la ea hb hl
  obtain ⟨g2, e2, gr2⟩ := c_shown_numbersU n W w g1 (by have := gr1.le; omega) (gr1.get ew lw) hw (by omega)
  have eb : biD .str [.int k] h = some (.ok (.str (num k)), h) := bi_str (U_big kb)
  have l1 := spT_lenU hb
  have l2 := spT_lenU hw
  have l3 := num_u kb
  have q3 : (g2.new (.lst ([num k, spT P, spT W].map D.str))).get g2.next = some (.lst ([num k, spT P, spT W].map D.str)) := new_get_at ..
  have ls : (Str.ofString " / ").length = 3 := by decide +kernel
  have j : bmD .join (.str (Str.ofString " / ")) [.ref g2.next] (g2.new (.lst ([num k, spT P, spT W].map D.str))) = some (.ok (.str (papT k P W)), g2.new (.lst ([num k, spT P, spT W].map D.str))) := bm_join q3 (by
    rw [ls]
    simp only [List.map_cons, List.map_nil, List.sum_cons, List.sum_nil, List.length_cons, List.length_nil]
    omega)
  refine ⟨g2.new (.lst ([num k, spT P, spT W].map D.str)), ?_, (gr1.trans gr2).trans .new⟩
  generalize papT k P W = t at j
  simp only [List.map_cons, List.map_nil] at j ⊢
  generalize num k = z1 at eb j
  generalize spT P = z2 at e1 j
  generalize spT W = z3 at e2 j
  simp_arith! [F_show_paper, -bi_str, eb, e1, e2, j]
theorem papT_len {k : Int} {P W : List Int} (uk : U k) (hP : ∀ v ∈ P, U v) (hW : ∀ v ∈ W, U v) : (papT k P W).length ≤ 20 + P.length * 21 + W.length * 21 + 9 := by
  have h1 : (papT k P W).length ≤ (([num k, spT P, spT W]).map (·.length)).sum + ([num k, spT P, spT W]).length * (Str.ofString " / ").length := join_le _ _
  have l1 := spT_lenU hP
  have l2 := spT_lenU hW
  have l3 := num_u uk
  rw [sl_len] at h1
  simp only [List.map_cons, List.map_nil, List.sum_cons, List.sum_nil, List.length_cons, List.length_nil] at h1
  omega
abbrev LtB : Z.S := F_l_text.body
theorem c_ltext (n : Nat) (k : Int) (P W : List Int) (a w : Nat) (h : Hm) (la : a < h.next) (lw : w < h.next) (ea : h.get a = some (.lst (P.map D.int))) (ew : h.get w = some (.lst (W.map D.int))) (kb : U k) (hb : ∀ v ∈ P, U v) (hw : ∀ v ∈ W, U v) (hl : P.length ≤ 400) (wl : W.length ≤ 400) :
    ∃ g, callF PR (n + 1) "_law_text" [.tup [.int k, .ref a, .ref w]] h = some (.ok (.str (papT k P W)), g) ∧ Gro h g := by
  rw [callF_eq fn_l_text rfl]
  obtain ⟨R, hR⟩ : ∃ R : Res D → Prop, (fun r => ∃ g, r = some (.ok (.str (papT k P W)), g) ∧ Gro h g) = R := ⟨_, rfl⟩
  have goal : Ends R (ex PR (callF PR n) (LtB.from 0) (start F_l_text.ns [.tup [.int k, .ref a, .ref w]]) h) := by
    obtain ⟨g0, hg0⟩ : ∃ g0, h.new (.lst [D.str (num k)]) = g0 := ⟨_, rfl⟩
    have gr0 : Gro h g0 := by rw [← hg0]; exact .new
    have n0 : g0.next = h.next + 1 := by rw [← hg0, new_next]
    have q0 : g0.get h.next = some (.lst [D.str (num k)]) := by rw [← hg0]; exact new_get_at ..
    have eb : biD .str [.int k] h = some (.ok (.str (num k)), h) := bi_str (U_big kb)
    have t0 : ex PR (callF PR n) (LtB.from 0).hd (start F_l_text.ns [.tup [.int k, .ref a, .ref w]]) h = some (.nx, [some (.tup [.int k, .ref a, .ref w]), some (.ref h.next), none, none], g0) := by
      generalize num k = z at eb hg0
      simp_arith! [LtB, F_l_text, Z.S.from, Z.S.tl, Z.S.hd, -bi_str, eb, hg0]
    rw [show LtB.from 0 = .seq (LtB.from 0).hd (LtB.from 1) from rfl, seq_nx t0]
    rw [show LtB.from 1 = .seq (.for_ (.name 2) .seq (.cons (.slc (.var 0) (.some (.con (.int 1))) .none) .nil) (LtB.from 1).hd.bd) (LtB.from 2) from rfl]
    refine for_seq (Ends R) (h1 := g0) (vs := [.tup [.ref a, .ref w]]) (cs := [(a, P), (w, W)]) (gd := []) (fun q => D.ref q.1) (fun d env g => (∃ v2, env = [some (.tup [.int k, .ref a, .ref w]), some (.ref h.next), v2, none]) ∧ Gro h g ∧ h.next < g.next ∧ g.get h.next = some (.lst ((num k :: d.map fun q => spT q.2).map D.str))) ?_ ?_ ⟨⟨_, rfl⟩, gr0, by omega, q0⟩ (fun _ _ _ _ => stays_nil _) ?_ ?_
    · simp_arith! []
      rfl
    · rfl
    · rintro d q rest env g hcs ⟨⟨v2, rfl⟩, gr, l, qd⟩
      have hmem : q ∈ [(a, P), (w, W)] := by rw [hcs]; simp
      have hq : g.get q.1 = some (.lst (q.2.map D.int)) ∧ q.1 < g.next ∧ (∀ v ∈ q.2, U v) ∧ q.2.length ≤ 400 := by
        have := gr.le
        rcases List.mem_cons.mp hmem with rfl | hm
        · exact ⟨gr.get ea la, by show a < _; omega, hb, hl⟩
        · rw [List.mem_singleton.mp hm]; exact ⟨gr.get ew lw, by show w < _; omega, hw, wl⟩
      obtain ⟨x, L⟩ := q
      obtain ⟨hq, lx, hU, lL⟩ := hq
      dsimp only at hq lx hU lL ⊢
      refine ⟨_, rfl, ?_⟩
      obtain ⟨X, hX⟩ : ∃ X : D, .tup [.int k, .ref a, .ref w] = X := ⟨_, rfl⟩
      rw [hX]
      obtain ⟨g1, e1, gr1, l1, q1⟩ := compL_gro (fe := fun e1 h2 => ev PR (callF PR n) (.bi .str (.cons (.var 3) (.nil))) e1 h2) (ft := fun e1 h2 => evT PR (callF PR n) .yes e1 h2) (g := .name 3) (gd := [(x, .lst (L.map D.int))]) (env := [some X, some (.ref h.next), some (.ref x), none]) (h := g) (cs := L) D.int (fun v => D.str (num v)) (fun h' g' => by rw [stays_cons]; exact ⟨g'.get hq lx, stays_nil _⟩) (fun v hv => ⟨_, rfl, fun h' g' _ => ⟨by simp_arith [], h', by
        have eb : biD .str [.int v] h' = some (.ok (.str (num v)), h') := bi_str (U_big (hU v hv))
        generalize num v = z at eb
        simp_arith! [-bi_str, eb], .refl⟩⟩) (by omega)
      obtain ⟨CE, hCE⟩ : ∃ y, Z.E.comp (.bi .str (.cons (.var 3) (.nil))) [3] (.name 3) .seq (.cons (.var 2) .nil) (.yes) = y := ⟨_, rfl⟩
      have ec : ev PR (callF PR n) CE [some X, some (.ref h.next), some (.ref x), none] g = some (.ok (.ref g.next), g1) := by
        rw [← hCE, comp_ev (h1 := g) (vs := [.ref x]) (gd := [(x, .lst (L.map D.int))]) (items := L.map D.int) (by simp_arith []) (by simp_arith [hq]) rfl]
        exact e1
      have q1' : g1.get g.next = some (.lst ((L.map num).map D.str)) := by rw [q1, List.map_map]; rfl
      have sl := sum_le (L.map num) 20 (fun p hp => by
        obtain ⟨v, hv, rfl⟩ := List.mem_map.mp hp
        exact num_u (hU v hv))
      have j : bmD .join (.str (Str.ofString " ")) [.ref g.next] g1 = some (.ok (.str (spT L)), g1) := bm_join q1' (by
        rw [List.length_map] at sl ⊢
        rw [sp_len]
        omega)
      have qd1 := gr1.get qd l
      have ld : d.length ≤ 2 := by
        have : ([(a, P), (w, W)] : List (Nat × List Int)).length = d.length + (rest.length + 1) := by rw [hcs]; simp
        have e2 : ([(a, P), (w, W)] : List (Nat × List Int)).length = 2 := rfl
        omega
      obtain ⟨g2, hg2⟩ : ∃ g2, g1.put h.next (.lst ((num k :: d.map fun q => spT q.2).map D.str ++ [D.str (spT L)])) = g2 := ⟨_, rfl⟩
      have res : Thru (fun env g => (∃ v2, env = [some X, some (.ref h.next), v2, none]) ∧ Gro h g ∧ h.next < g.next ∧ g.get h.next = some (.lst ((num k :: (d ++ [(x, L)]).map fun q => spT q.2).map D.str))) (some (.nx, [some X, some (.ref h.next), some (.ref x), none], g2)) := by
        refine Thru.nx ⟨⟨_, rfl⟩, ?_, ?_, ?_⟩
        · rw [← hg2]; exact (gr.trans gr1).put (Nat.le_refl _)
        · rw [← hg2, put_next]; have := gr1.le; omega
        · rw [← hg2, put_get, if_pos rfl]; simp
      obtain ⟨I, hI⟩ : ∃ I : Env → Hm → Prop, (fun env g => (∃ v2, env = [some X, some (.ref h.next), v2, none]) ∧ Gro h g ∧ h.next < g.next ∧ g.get h.next = some (.lst ((num k :: (d ++ [(x, L)]).map fun q => spT q.2).map D.str))) = I := ⟨_, rfl⟩
      rw [hI] at res ⊢
      have lA : ((num k :: d.map fun q => spT q.2).map D.str).length < 1000000 := by simp; omega
      generalize (num k :: d.map fun q => spT q.2).map D.str = AC at qd qd1 hg2 lA
      have hb2 : (LtB.from 1).hd.bd = .drop (.bm .append (.var 1) (.cons (.bm .join (.con (.str " ")) (.cons CE (.nil))) (.nil))) := by rw [← hCE]; rfl
      rw [hb2]
      generalize spT L = t at j hg2
      have es : List.set [some X, some (.ref h.next), v2, none] 2 (some (D.ref x)) = [some X, some (.ref h.next), some (.ref x), none] := rfl
      rw [es]
      simp_arith! [qd, ec, j, qd1, lA, hg2]
      exact res
    · rintro env g ⟨⟨v2, rfl⟩, gr, l, qd⟩
      have l1 := spT_lenU hb
      have l2 := spT_lenU hw
      have l3 := num_u kb
      have q3 : g.get h.next = some (.lst ([num k, spT P, spT W].map D.str)) := qd
      have j : bmD .join (.str (Str.ofString " / ")) [.ref h.next] g = some (.ok (.str (papT k P W)), g) := bm_join q3 (by
        rw [sl_len]
        simp only [List.map_cons, List.map_nil, List.sum_cons, List.sum_nil, List.length_cons, List.length_nil]
        omega)
      have fin : R (some (.ok (.str (papT k P W)), g)) := by rw [← hR]; exact ⟨g, rfl, gr⟩
      generalize papT k P W = t at j fin
      have rc : rcv .join (.str (Str.ofString " / ")) g = true := rfl
      simp_arith! [LtB, F_l_text, Z.S.bd, Z.S.hd, Z.S.tl, Z.S.from, rc, j, Ends]
      exact fin
  rw [← hR] at goal
  exact goal
theorem len_signs : (Str.ofString " /0917a+-_.,;:!#&'()*<=>?\x40[]^~ABCxyz{|}$ //  ").length = 45 := by decide +kernel
theorem signs_at : ∀ j : Nat, j < 45 → ∃ x, atD (Str.ofString " /0917a+-_.,;:!#&'()*<=>?\x40[]^~ABCxyz{|}$ //  ").cps.toList (j : Int) = some x := fun j hj => by
  have l := len_list (Str.ofString " /0917a+-_.,;:!#&'()*<=>?\x40[]^~ABCxyz{|}$ //  ")
  rw [len_signs] at l
  rw [atD_nat, List.getElem?_eq_getElem (by omega)]
  exact ⟨_, rfl⟩
theorem c_lspoilt (n : Nat) (z : Str) (hz : z.length ≤ 4000) (k at_ cell : Int) (h : Hm) : ∃ t : Str, t.length ≤ 10000 ∧ callF PR (n + 1) "_law_spoilt" [.str z, .int k, .int at_, .int cell] h = some (.ok (.str t), h) := by
  obtain ⟨j, hj, ej⟩ : ∃ j : Nat, j < 45 ∧ cell % 45 = (j : Int) := ⟨(cell % 45).toNat, by omega, by omega⟩
  obtain ⟨x, hx⟩ := signs_at j hj
  have ls := len_signs
  have ix : idxD (.str (Str.ofString " /0917a+-_.,;:!#&'()*<=>?\x40[]^~ABCxyz{|}$ //  ")) (.int (j : Int)) h = some (.str ⟨#[x]⟩) := idx_str (by rw [len_signs]; decide) hx
  obtain ⟨m, hm⟩ : ∃ m, at_ % ((z.length : Int) + 1) = m := ⟨_, rfl⟩
  have l1 := cutT_len z none (some m)
  have l2 := cutT_len z (some m) none
  have l3 := cutT_len z (some (m + 1)) none
  have lx : (⟨#[x]⟩ : Str).length = 1 := rfl
  have lsl := sl_len
  obtain ⟨A, hA⟩ : ∃ A, cutT z none (some m) = A := ⟨_, rfl⟩
  obtain ⟨B, hB⟩ : ∃ B, cutT z (some m) none = B := ⟨_, rfl⟩
  obtain ⟨C, hC⟩ : ∃ C, cutT z (some (m + 1)) none = C := ⟨_, rfl⟩
  rw [hA] at l1
  rw [hB] at l2
  rw [hC] at l3
  have a1 := str_app_len A ⟨#[x]⟩
  have a2 := str_app_len A (Str.ofString " / ")
  have a3 := str_app_len (A ++ ⟨#[x]⟩) B
  have a4 := str_app_len (A ++ ⟨#[x]⟩) C
  have a5 := str_app_len (A ++ Str.ofString " / ") B
  have a6 := str_app_len A C
  by_cases k0 : k = 0
  · refine ⟨A ++ ⟨#[x]⟩ ++ B, by omega, ?_⟩
    rw [callF_eq fn_l_spoilt rfl]
    simp_arith! [F_l_spoilt, ls, ej, ix, hm, k0, hA, hB, hC]
  by_cases k1 : k = 1
  · refine ⟨A ++ C, by omega, ?_⟩
    rw [callF_eq fn_l_spoilt rfl]
    simp_arith! [F_l_spoilt, ls, ej, ix, hm, k1, hA, hB, hC]
  by_cases k2 : k = 2
  · refine ⟨A ++ ⟨#[x]⟩ ++ C, by omega, ?_⟩
    rw [callF_eq fn_l_spoilt rfl]
    simp_arith! [F_l_spoilt, ls, ej, ix, hm, k2, hA, hB, hC]
  · refine ⟨A ++ Str.ofString " / " ++ B, by omega, ?_⟩
    rw [callF_eq fn_l_spoilt rfl]
    simp_arith! [F_l_spoilt, ls, ej, ix, hm, k0, k1, k2, hA, hB, hC]
--CUT
theorem asg_ev {cl : Cl} {i : Nat} {e : E} {rest : Z.S} {env : Env} {h h' : Hm} {x : D} (q : ev PR cl e env h = some (.ok x, h')) : ex PR cl (.seq (.asg i e) rest) env h = ex PR cl rest (env.set i (some x)) h' := by
  rw [ex, ex, q]; rfl
def nb (c : Int) : Int := if c % 5 = 1 then c / 5 % 12 else c / 5 % 18446744073709551616
theorem nb_U (c : Int) : U (nb c) := by
  unfold nb U
  split <;> omega
theorem c_lnumber (n : Nat) (c : Int) (h : Hm) : callF PR (n + 1) "_law_number" [.int c] h = some (.ok (.int (nb c)), h) := by
  rw [callF_eq fn_l_number rfl]
  unfold nb
  by_cases k : c % 5 = 1
  · simp_arith! [F_l_number, k]
  · simp_arith! [F_l_number, k]
abbrev LwB : Z.S := F_law.body
theorem law_ok (ns : List Int) (hl : ns.length ≤ 63) : ∃ h', callF PR (6 + 1) "law" [.ref 0] (h0 ns) = some (.ok (.bl true), h') := by
  rw [callF_eq fn_law rfl]
  obtain ⟨R, hR⟩ : ∃ R : Res D → Prop, (fun r => ∃ h', r = some (.ok (.bl true), h')) = R := ⟨_, rfl⟩
  have goal : Ends R (ex PR (callF PR 6) (LwB.from 0) (start F_law.ns [.ref 0]) (h0 ns)) := by
    have hcl := cut_len ns (some 3) (some 93)
    have hcm := cut_map D.int ns (some 3) (some 93)
    obtain ⟨vs, hvs⟩ : ∃ vs, cut ns (some 3) (some 93) = vs := ⟨_, rfl⟩
    rw [hvs] at hcl hcm
    obtain ⟨g1, hg1⟩ : ∃ g1, (h0 ns).new (.lst (vs.map D.int)) = g1 := ⟨_, rfl⟩
    have n1 : g1.next = 2 := by rw [← hg1]; rfl
    have q1 : g1.get 1 = some (.lst (vs.map D.int)) := by rw [← hg1]; rfl
    have s1 : g1.get 0 = some (.fz (ns.map D.int)) := by rw [← hg1]; rfl
    obtain ⟨g2, e1, gr2, l2, q2⟩ := compL_gro (fe := fun e1 h2 => ev PR (callF PR 6) (.call "_law_number" (.cons (.var 9) (.nil)) []) e1 h2) (ft := fun e1 h2 => evT PR (callF PR 6) .yes e1 h2) (g := .name 9) (gd := [(1, .lst (vs.map D.int))]) (env := [some (.ref 0), none, none, none, none, none, none, none, none, none, none]) (h := g1) (cs := vs) D.int (fun c => D.int (nb c)) (fun h' g' => by rw [stays_cons]; exact ⟨g'.get q1 (by omega), stays_nil _⟩) (fun v hv => ⟨_, rfl, fun h' g' _ => ⟨by simp_arith [], h', by
      have en := c_lnumber 5 v h'
      generalize nb v = z at en
      simp_arith! [en], .refl⟩⟩) (by omega)
    obtain ⟨CE, hCE⟩ : ∃ y, Z.E.comp (.call "_law_number" (.cons (.var 9) (.nil)) []) [9] (.name 9) .seq (.cons (.slc (.var 0) (.some (.con (.int 3))) (.some (.con (.int 93)))) .nil) (.yes) = y := ⟨_, rfl⟩
    have ec : ev PR (callF PR 6) CE [some (.ref 0), none, none, none, none, none, none, none, none, none, none] (h0 ns) = some (.ok (.ref 2), g2) := by
      rw [← hCE, comp_ev (h1 := g1) (vs := [.ref 1]) (gd := [(1, .lst (vs.map D.int))]) (items := vs.map D.int) (by simp_arith! [hcm, hg1]) (by simp_arith [q1]) rfl, ← n1]
      exact e1
    rw [n1] at q2 l2
    obtain ⟨us, hus⟩ : ∃ us, vs.map nb = us := ⟨_, rfl⟩
    have q2 : g2.get 2 = some (.lst (us.map D.int)) := by rw [q2, ← hus, List.map_map]; rfl
    have uU : ∀ v ∈ us, U v := fun v hv => by
      rw [← hus] at hv
      obtain ⟨c, _, rfl⟩ := List.mem_map.mp hv
      exact nb_U c
    have ul : us.length ≤ 63 := by rw [← hus, List.length_map]; omega
    have s2 := gr2.get s1 (by omega)
    rw [show LwB.from 0 = .seq (.asg 1 CE) (LwB.from 1) from by rw [← hCE]; rfl, show start F_law.ns [.ref 0] = [some (.ref 0), none, none, none, none, none, none, none, none, none, none] from rfl, asg_ev ec]
    have y0 := c_cell_at 5 ns 0 g2 s2
    have y1 := c_cell_at 5 ns 1 g2 s2
    rw [show ((0 : Nat) : Int) = 0 from rfl] at y0
    rw [show ((1 : Nat) : Int) = 1 from rfl] at y1
    have lUD : (us.map D.int).length = us.length := List.length_map ..
    have c1 := fun kc : Nat => cut_from (us.map D.int) kc
    have c2 := fun kc : Nat => cut_to (us.map D.int) kc
    obtain ⟨kc, k59, em⟩ : ∃ kc : Nat, kc ≤ 59 ∧ biD .min2 [.int (cell ns 0 % ((us.length : Int) + 1)), .int 59] g2 = some (.ok (.int (kc : Int)), g2) := by
      have m0 : 0 ≤ cell ns 0 % ((us.length : Int) + 1) := Int.emod_nonneg _ (by omega)
      generalize cell ns 0 % ((us.length : Int) + 1) = m at m0
      by_cases hm : m ≤ 59
      · refine ⟨m.toNat, by omega, ?_⟩
        rw [Int.toNat_of_nonneg m0]
        by_cases h59 : m = 59
        · subst h59; simp_arith []
        · have h1 : ¬ 59 < m := by omega
          have h2 : m < 59 := by omega
          simp_arith [h1, h2]
      · refine ⟨59, by omega, ?_⟩
        have h1 : 59 < m := by omega
        have h2 : ¬ m < 59 := by omega
        simp_arith [h1, h2]
    obtain ⟨P, hP⟩ : ∃ P, us.drop kc = P := ⟨_, rfl⟩
    obtain ⟨W, hW⟩ : ∃ W, us.take kc = W := ⟨_, rfl⟩
    have c1 : cut (us.map D.int) (some (kc : Int)) none = P.map D.int := by rw [c1, ← hP, List.map_drop]
    have c2 : cut (us.map D.int) none (some (kc : Int)) = W.map D.int := by rw [c2, ← hW, List.map_take]
    have PU : ∀ v ∈ P, U v := fun v hv => uU v (by rw [← hP] at hv; exact List.mem_of_mem_drop hv)
    have WU : ∀ v ∈ W, U v := fun v hv => uU v (by rw [← hW] at hv; exact List.mem_of_mem_take hv)
    have lP : P.length ≤ 63 := by rw [← hP, List.length_drop]; omega
    have lW : W.length ≤ 63 := by rw [← hW, List.length_take]; omega
    have kU := nb_U (cell ns 1)
    have yn := c_lnumber 5 (cell ns 1) g2
    obtain ⟨k, hk⟩ : ∃ k, nb (cell ns 1) = k := ⟨_, rfl⟩
    rw [hk] at kU yn
    obtain ⟨PD, hPD⟩ : ∃ PD, P.map D.int = PD := ⟨_, rfl⟩
    obtain ⟨WD, hWD⟩ : ∃ WD, W.map D.int = WD := ⟨_, rfl⟩
    obtain ⟨UD, hUD⟩ : ∃ UD, us.map D.int = UD := ⟨_, rfl⟩
    rw [hPD] at c1
    rw [hWD] at c2
    rw [hUD] at q2 lUD c1 c2
    (rw [show Z.S.from LwB 1 = .seq (Z.S.from LwB 1).hd (Z.S.from LwB 2) from rfl]; generalize hKK : Z.S.from LwB 2 = KK; simp_arith! [LwB, F_law, Z.S.bd, Z.S.hd, Z.S.tl, Z.S.from, y0, q2, lUD, em]; subst hKK)
    (rw [show Z.S.from LwB 2 = .seq (Z.S.from LwB 2).hd (Z.S.from LwB 3) from rfl]; generalize hKK : Z.S.from LwB 3 = KK; simp_arith! [LwB, F_law, Z.S.bd, Z.S.hd, Z.S.tl, Z.S.from, y1, yn, q2, c1, c2]; subst hKK; first | refine name_thru fun g3 hg3 => ?_ | refine name_ends fun g3 hg3 => ?_)
    have n3 : g3.next = g2.next + 2 := by rw [← hg3]; rfl
    have gr3 : Gro g2 g3 := by rw [← hg3]; exact Gro.new.trans .new
    have pa : g3.get g2.next = some (.lst PD) := by rw [← hg3]; exact (Gro.new (h := g2.new (.lst PD))).get (new_get_at ..) (by rw [new_next]; omega)
    have pw : g3.get (g2.next + 1) = some (.lst WD) := by rw [← hg3]; exact new_get_at (g2.new (.lst PD)) _
    (rw [show Z.S.from LwB 3 = .seq (Z.S.from LwB 3).hd (Z.S.from LwB 4) from rfl]; generalize hKK : Z.S.from LwB 4 = KK; simp_arith! [LwB, F_law, Z.S.bd, Z.S.hd, Z.S.tl, Z.S.from, pa, pw]; subst hKK; first | refine name_thru fun g4 hg4 => ?_ | refine name_ends fun g4 hg4 => ?_)
    have n4 : g4.next = g3.next + 2 := by rw [← hg4]; rfl
    have gr4 : Gro g3 g4 := by rw [← hg4]; exact Gro.new.trans .new
    have ha : g4.get g3.next = some (.lst PD) := by rw [← hg4]; exact (Gro.new (h := g3.new (.lst PD))).get (new_get_at ..) (by rw [new_next]; omega)
    have hw : g4.get (g3.next + 1) = some (.lst WD) := by rw [← hg4]; exact new_get_at (g3.new (.lst PD)) _
    have pa4 := gr4.get pa (by omega)
    have pw4 := gr4.get pw (by omega)
    obtain ⟨a, hae⟩ : ∃ a, g2.next = a := ⟨_, rfl⟩
    obtain ⟨w, hwe⟩ : ∃ w, g2.next + 1 = w := ⟨_, rfl⟩
    obtain ⟨a', hae'⟩ : ∃ a, g3.next = a := ⟨_, rfl⟩
    obtain ⟨w', hwe'⟩ : ∃ w, g3.next + 1 = w := ⟨_, rfl⟩
    rw [hae] at pa4
    rw [hwe] at pw4
    rw [hae'] at ha
    rw [hwe'] at hw
    have pa5 := pa4
    have pw5 := pw4
    have ha5 := ha
    have hw5 := hw
    rw [← hPD] at pa5 ha5
    rw [← hWD] at pw5 hw5
    obtain ⟨g5, e5, gr5⟩ := c_show_paperU 4 k P W a' w' g4 (by omega) (by omega) ha5 hw5 kU PU WU (by omega) (by omega)
    have tl := papT_len kU PU WU
    have pa6 := gr5.get pa5 (by omega)
    have pw6 := gr5.get pw5 (by omega)
    have ep := eq_paper k P W a' w' a w g5 (gr5.get ha5 (by omega)) (gr5.get hw5 (by omega)) pa6 pw6
    obtain ⟨g6, e6, gr6⟩ := c_ltext 5 k P W a w g5 (by have := gr5.le; omega) (by have := gr5.le; omega) pa6 pw6 kU PU WU (by omega) (by omega)
    obtain ⟨t, ht⟩ : ∃ t, papT k P W = t := ⟨_, rfl⟩
    rw [ht] at e5 e6 tl
    obtain ⟨g7, e7, gr7⟩ := c_lread 0 t (by omega) g6
    have pa7 := gr7.get (gr6.get pa6 (by have := gr5.le; omega)) (by have := gr5.le; have := gr6.le; omega)
    have s7 := gr7.get (gr6.get (gr5.get (gr4.get (gr3.get s2 (by omega)) (by omega)) (by have := gr5.le; omega)) (by have := gr5.le; omega)) (by have := gr5.le; have := gr6.le; omega)
    have l7 : g2.next + 4 ≤ g7.next := by have := gr5.le; have := gr6.le; have := gr7.le; omega
    rw [hwe, hae, hwe', hae']
    (rw [show Z.S.from LwB 4 = .seq (Z.S.from LwB 4).hd (Z.S.from LwB 5) from rfl]; generalize hKK : Z.S.from LwB 5 = KK; simp_arith! [LwB, F_law, Z.S.bd, Z.S.hd, Z.S.tl, Z.S.from, e5]; subst hKK)
    obtain ⟨X, hX⟩ : ∃ X : D, .tup [.int k, .ref a, .ref w] = X := ⟨_, rfl⟩
    obtain ⟨Y, hY⟩ : ∃ Y : D, .tup [.int k, .ref a', .ref w'] = Y := ⟨_, rfl⟩
    rw [hX] at e6 ⊢
    rw [hY]
    have en : cmpD .ne Y X g5 = some false := by rw [← hX, ← hY, ne_tt, ep]; rfl
    (rw [show Z.S.from LwB 5 = .seq (Z.S.from LwB 5).hd (Z.S.from LwB 6) from rfl]; generalize hKK : Z.S.from LwB 6 = KK; simp_arith! [LwB, F_law, Z.S.bd, Z.S.hd, Z.S.tl, Z.S.from, en, e6, e7]; subst hKK)
    have y2 := c_cell_at 5 ns 2 g7 s7
    rw [show ((2 : Nat) : Int) = 2 from rfl] at y2
    obtain ⟨sp, hsp⟩ : ∃ sp, cell ns 2 % 1000000000 = sp := ⟨_, rfl⟩
    have sp0 : 0 ≤ sp ∧ sp < 1000000000 := by omega
    have ew : binD .pow (.int 10) (.int 9) g7 = some (.ok (.int 1000000000), g7) := by
      have c : 0 ≤ (9 : Int) ∧ (9 : Int) ≤ 1000000 ∧ w64 10 := by unfold w64; omega
      simp only [binD]
      rw [if_pos c]
      rfl
    (rw [show Z.S.from LwB 6 = .seq (Z.S.from LwB 6).hd (Z.S.from LwB 7) from rfl]; generalize hKK : Z.S.from LwB 7 = KK; simp_arith! [LwB, F_law, Z.S.bd, Z.S.hd, Z.S.tl, Z.S.from, y2, ew, hsp]; subst hKK)
    rw [show LwB.from 7 = .seq (.for_ (.name 7) .range1 (.cons (.con (.int 4)) (.nil)) (LwB.from 7).hd.bd) (LwB.from 8) from rfl]
    refine for_seq (Ends R) (h1 := g7) (vs := [.int 4]) (cs := List.range 4) (gd := []) (fun i => D.int (i : Nat)) (fun d env g => (∃ v7, env = [some (.ref 0), some (.ref 2), some (.int (kc : Int)), some X, some Y, some (.str t), some (.int sp), v7, none, none, none]) ∧ Gro g7 g) ?_ ?_ ⟨⟨_, rfl⟩, .refl⟩ (fun _ _ _ _ => stays_nil _) ?_ ?_
    · simp_arith! []
    · simp_arith []
    · rintro d i rest env g hcs ⟨⟨v7, rfl⟩, gr⟩
      refine ⟨_, rfl, ?_⟩
      obtain ⟨z, lz, ez⟩ := c_lspoilt 5 t (by omega) (i : Int) (sp / ((i : Int) + 1)) (sp / 7 + (i : Int)) g
      obtain ⟨g', er, gr'⟩ := c_lread 0 z lz g
      obtain ⟨I, hI⟩ : ∃ I : Env → Hm → Prop, (fun env g => (∃ v7, env = [some (.ref 0), some (.ref 2), some (.int (kc : Int)), some X, some Y, some (.str t), some (.int sp), v7, none, none, none]) ∧ Gro g7 g) = I := ⟨_, rfl⟩
      have res : Thru I (some (.nx, [some (.ref 0), some (.ref 2), some (.int (kc : Int)), some X, some Y, some (.str t), some (.int sp), some (.int (i : Nat)), none, none, none], g')) := by
        rw [← hI]; exact Thru.nx ⟨⟨_, rfl⟩, gr.trans gr'⟩
      have i4 : i < 4 := List.mem_range.mp (by rw [hcs]; simp)
      have f1 : 0 < (i : Int) + 1 ∧ (i : Int) + 1 < 2 ^ 250 := by omega
      have ef : ∀ g : Hm, binD .fdiv (.int sp) (.int ((i : Int) + 1)) g = some (.ok (.int (sp / ((i : Int) + 1))), g) := fun g => b_fdiv f1
      rw [hI]
      generalize sp / ((i : Int) + 1) = d1 at ez ef
      simp_arith! [LwB, F_law, Z.S.from, Z.S.tl, Z.S.hd, Z.S.bd, ef, ez, er]
      exact res
    · rintro env g8 ⟨⟨v7, rfl⟩, gr8⟩
      obtain ⟨m, hm60, hm⟩ : ∃ m : Nat, m ≤ 61 ∧ idxD (.ref g8.next) (.int (sp % 2)) (g8.new (.lst [.int 60, .int 61])) = some (.int (m : Int)) := by
        have : sp % 2 = 0 ∨ sp % 2 = 1 := by omega
        rcases this with h2 | h2
        · exact ⟨60, by omega, by simp_arith [h2]⟩
        · exact ⟨61, by omega, by simp_arith [h2]⟩
      obtain ⟨g9, hg9⟩ : ∃ g9, g8.new (.lst [D.int 60, .int 61]) = g9 := ⟨_, rfl⟩
      have gr9 : Gro g8 g9 := by rw [← hg9]; exact .new
      rw [hg9] at hm
      have t8 : ex PR (callF PR 6) (LwB.from 8).hd [some (.ref 0), some (.ref 2), some (.int (kc : Int)), some X, some Y, some (.str t), some (.int sp), v7, none, none, none] g8 = some (.nx, [some (.ref 0), some (.ref 2), some (.int (kc : Int)), some X, some Y, some (.str t), some (.int sp), v7, some (.int (m : Int)), none, none], g9) := by
        simp_arith! [LwB, F_law, Z.S.from, Z.S.tl, Z.S.hd, hg9, hm]
      rw [show LwB.from 8 = .seq (LwB.from 8).hd (LwB.from 9) from rfl, seq_nx t8]
      have pa9 := (gr8.trans gr9).get pa7 (by omega)
      obtain ⟨ga, ea, gra, la, qa⟩ := compL_gro (fe := fun e1 h2 => ev PR (callF PR 6) (.bin .fdiv (.var 6) (.bin .add (.var 10) (.con (.int 1)))) e1 h2) (ft := fun e1 h2 => evT PR (callF PR 6) .yes e1 h2) (g := .name 10) (gd := []) (env := [some (.ref 0), some (.ref 2), some (.int (kc : Int)), some X, some Y, some (.str t), some (.int sp), v7, some (.int (m : Int)), none, none]) (h := g9) (cs := List.range m) (fun i => D.int (i : Nat)) (fun i => D.int (sp / ((i : Int) + 1))) (fun h' g' => stays_nil _) (fun i hi => ⟨_, rfl, fun h' g' _ => ⟨by simp_arith [], h', by
        have i4 : i < m := List.mem_range.mp hi
        have f1 : 0 < (i : Int) + 1 ∧ (i : Int) + 1 < 2 ^ 250 := by omega
        have ef : binD .fdiv (.int sp) (.int ((i : Int) + 1)) h' = some (.ok (.int (sp / ((i : Int) + 1))), h') := b_fdiv f1
        generalize sp / ((i : Int) + 1) = d1 at ef
        simp_arith! [ef], .refl⟩⟩) (by rw [List.length_range]; omega)
      obtain ⟨Q, hQ⟩ : ∃ Q : List Int, (List.range m).map (fun i : Nat => sp / ((i : Int) + 1)) = Q := ⟨_, rfl⟩
      have qa : ga.get g9.next = some (.lst (Q.map D.int)) := by rw [qa, ← hQ, List.map_map]; rfl
      have lQ : Q.length ≤ 61 := by rw [← hQ, List.length_map, List.length_range]; exact hm60
      have QU : ∀ v ∈ Q, U v := fun v hv => by
        rw [← hQ] at hv
        obtain ⟨i, _, rfl⟩ := List.mem_map.mp hv
        have h1 : 0 ≤ sp / ((i : Int) + 1) := Int.ediv_nonneg sp0.1 (by omega)
        have h2 : sp / ((i : Int) + 1) ≤ sp := Int.ediv_le_self _ sp0.1
        exact ⟨h1, by omega⟩
      obtain ⟨CE2, hCE2⟩ : ∃ y, Z.E.comp (.bin .fdiv (.var 6) (.bin .add (.var 10) (.con (.int 1)))) [10] (.name 10) .range1 (.cons (.var 8) (.nil)) (.yes) = y := ⟨_, rfl⟩
      have ec2 : ev PR (callF PR 6) CE2 [some (.ref 0), some (.ref 2), some (.int (kc : Int)), some X, some Y, some (.str t), some (.int sp), v7, some (.int (m : Int)), none, none] g9 = some (.ok (.ref g9.next), ga) := by
        rw [← hCE2, comp_ev (h1 := g9) (vs := [.int (m : Int)]) (gd := []) (items := (List.range m).map fun i => D.int (i : Nat)) (by simp_arith []) (by simp_arith []) rfl]
        exact ea
      obtain ⟨gb, eb, grb⟩ := c_ltext 5 k P Q a g9.next ga (by have := gr8.le; have := gr9.le; have := gra.le; omega) la (gra.get pa9 (by have := gr8.le; have := gr9.le; omega)) qa kU PU QU (by omega) (by omega)
      have tl2 := papT_len kU PU QU
      obtain ⟨t2, ht2⟩ : ∃ t2, papT k P Q = t2 := ⟨_, rfl⟩
      rw [ht2] at eb tl2
      obtain ⟨gc, er, grc⟩ := c_lread 0 t2 (by omega) gb
      have fin : R (some (.ok (.bl true), gc)) := by rw [← hR]; exact ⟨gc, rfl⟩
      have i0 : ∀ g : Hm, idxD X (.int 0) g = some (.int k) := fun g => by rw [← hX]; rfl
      have i1 : ∀ g : Hm, idxD X (.int 1) g = some (.ref a) := fun g => by rw [← hX]; rfl
      rw [show LwB.from 9 = .ret (.call "_law_read" (.cons (.call "_law_text" (.cons (.tup (.cons (.idx (.var 3) (.con (.int 0))) (.cons (.idx (.var 3) (.con (.int 1))) (.cons CE2 (.nil))))) (.nil)) []) (.nil)) []) from by rw [← hCE2]; rfl]
      simp_arith! [i0, i1, ec2, eb, er, Ends]
      exact fin
  rw [← hR] at goal
  exact goal
end K51
end Z

theorem PySem.Challenge.cw_meterhouse_k51_papers_texts_holds : PySem.Challenge.rw_meterhouse_k51_papers_texts.Holds := by
  exact Z.K51.holds_of 6 (by decide) fun ns hl => Z.K51.law_ok ns hl
