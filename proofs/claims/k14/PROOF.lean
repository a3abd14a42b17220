import PyProof.Rows.All
import Wide.All
import OpenK.AllK
import Wide.FinOn
import HandS.ForMost
import HandS.Wide
import HandS.IsInst
import HandS.TupAny
import HandS.TupMul
import HandS.NoneIn
import HandS.Style
import HandS.WideBits
import HandS.CallSlots
import HandS.Zip
import KE.GoesNew
import KE.GoesMore
import KE.GoesEnumKw
import HandS.Exc
import HandS.WordsExc
import HandS.More
import HandS.Strs
import HandS.Dict
import HandS.Small
import HandS.DictComp
import HandS.Iter
import KE.KEqNest
import HandS.Finally
import HandS.Text
import HandS.Replace
import HandS.StrMore
import HandS.ExcInit
import HandS.ExcOwn
import HandS.ClsMeth
import HandS.TryOnly
import HandS.ExcIs
import HandS.New0
import HandS.TupLen
import KE.KExcIs
import HandS.Conv
import HandS.ListItems
import KE.KDictCopyH
import HandS.Defaults
import HandS.RevRange
import PyProof.Rows.CallKwBuiltin
import PyProof.Rows.StrRev
import PySem.Challenge.RW_fencemask_k14_code_as_text
set_option Elab.async false
set_option linter.all false
set_option maxRecDepth 100000
set_option maxHeartbeats 4000000
/-! G, the data level: values by themselves, a store of changing objects, one combinator for each construct, and their wp. -/
namespace G
open PySem L2

inductive D where
  | non | bl (b : Bool) | int (i : Int) | str (x : Str) | tup (ds : List D) | lst (ds : List D) | box (j : Nat) | fn (x : Str)
inductive MO where
  | lst (ds : List D) | dk (kvs : List (Key × D)) | fd (kvs : List (Key × D)) | dt (kvs : List (List Key × D)) | ft (kvs : List (List Key × D)) | ins (c : Str) (fs : List (Str × D)) | exo (c : Str) (j : Nat) (fs : List (Str × D))
abbrev Sto := List MO
inductive R (α : Type) where
  | ok (a : α) (m : Sto) | ex (c : Str) (fs : List (Str × D)) (m : Sto) | no
abbrev Cm (α : Type) := Sto → R α
def bnd {α β : Type} (m : Cm α) (f : α → Cm β) : Cm β := fun s => match m s with
  | .ok a t => f a t
  | .ex c fs t => .ex c fs t
  | .no => .no
def ret {α : Type} (a : α) : Cm α := fun s => .ok a s
def noC {α : Type} : Cm α := fun _ => .no
def alloc (o : MO) : Cm D := fun s => .ok (.box s.length) (s ++ [o])

/-! ### slots -/
abbrev En := List (Option D)
def sl : En → Nat → Option D
  | [], _ => none
  | x :: _, 0 => x
  | _ :: r, n + 1 => sl r n
def st : En → Nat → Option D → En
  | [], _, _ => []
  | _ :: r, 0, d => d :: r
  | x :: r, n + 1, d => x :: st r n d
theorem sl_0 {x : Option D} {r : En} : sl (x :: r) 0 = x := rfl
theorem sl_s {x : Option D} {r : En} {n : Nat} : sl (x :: r) (n + 1) = sl r n := rfl
theorem st_0 {x d : Option D} {r : En} : st (x :: r) 0 d = d :: r := rfl
theorem st_s {x d : Option D} {r : En} {n : Nat} : st (x :: r) (n + 1) d = x :: st r n d := rfl
theorem sl_get : ∀ {e : En} {i : Nat} {d : D}, sl e i = some d ↔ e[i]? = some (some d)
  | [], i, d => by simp [sl]
  | x :: r, 0, d => by simp [sl]
  | x :: r, n + 1, d => by rw [sl_s, sl_get]; simp
theorem st_len : ∀ {e : En} {i : Nat} {d : Option D}, (st e i d).length = e.length
  | [], i, d => rfl
  | x :: r, 0, d => rfl
  | x :: r, n + 1, d => by simp [st, st_len]
theorem st_set : ∀ {e : En} {i : Nat} {d : Option D}, st e i d = e.set i d
  | [], i, d => by simp [st]
  | x :: r, 0, d => rfl
  | x :: r, n + 1, d => by rw [st_s, st_set]; rfl
def wipeE (e : En) : List Nat → En
  | [] => e
  | v :: vs => st (wipeE e vs) v none

/-! ### operators -/
abbrev CE := En → Cm D
abbrev CT := En → Cm Bool
abbrev CA := En → Cm (List D)
def mulOk (i j : Int) : Prop := (-(2 ^ 64) < i ∧ i < 2 ^ 64) ∨ (-(2 ^ 64) < j ∧ j < 2 ^ 64)
instance {i j : Int} : Decidable (mulOk i j) := by unfold mulOk; infer_instance
def big : Nat := 1000000
def lAt (s : Sto) (j : Nat) : Option (List D) := match s[j]? with
  | some (.lst ds) => some ds
  | _ => none
/-- what of a value is a list's or a tuple's items -/
def itemsOf (s : Sto) : D → Option (List D)
  | .tup ds => some ds
  | .lst ds => some ds
  | .box j => lAt s j
  | _ => none
/-- a text's signs -/
def chars (z : Str) : List D := z.cps.toList.map fun c => .str ⟨#[c]⟩
/-- what is walked, or asked for by place -/
def rowOf (s : Sto) (d : D) : Option (List D) := match d with
  | .str z => if z.length ≤ big then some (chars z) else none
  | d => itemsOf s d
def dAdd : D → D → Cm D
  | .int i, .int j => ret (.int (i + j))
  | .str x, .str y => if x.length + y.length ≤ big then ret (.str (x ++ y)) else noC
  | .tup xs, .tup ys => if xs.length + ys.length ≤ big then ret (.tup (xs ++ ys)) else noC
  | .box a, .box b => fun s => match lAt s a, lAt s b with
    | some xs, some ys => if xs.length + ys.length ≤ big then alloc (.lst (xs ++ ys)) s else .no
    | _, _ => .no
  | _, _ => noC
/-- += of ints -/
def iAdd : D → D → Cm D
  | .int i, .int j => ret (.int (i + j))
  | _, _ => noC
def dSub : D → D → Cm D
  | .int i, .int j => ret (.int (i - j))
  | _, _ => noC
def dMul : D → D → Cm D
  | .int i, .int j => if mulOk i j then ret (.int (i * j)) else noC
  | .tup xs, .int k => if xs ≠ [] ∧ 2 ≤ k ∧ k ≤ 1000 ∧ xs.length ≤ 1000 then ret (.tup (List.replicate k.toNat xs).flatten) else noC
  | .box a, .int k => fun s => match lAt s a with
    | some xs => if -(2 ^ 62) < k ∧ k < 2 ^ 62 ∧ xs.length * k.toNat ≤ big then alloc (.lst (List.replicate k.toNat xs).flatten) s else .no
    | _ => .no
  | _, _ => noC
def dDiv : D → D → Cm D
  | .int i, .int j => if 0 < j ∧ j < 2 ^ 128 then ret (.int (i / j)) else noC
  | _, _ => noC
def dMod : D → D → Cm D
  | .int i, .int j => if 0 < j then ret (.int (i % j)) else noC
  | _, _ => noC
def dPow : D → D → Cm D
  | .int i, .int j => if 0 ≤ j ∧ j ≤ 1000000 ∧ -(2 ^ 64) < i ∧ i < 2 ^ 64 then ret (.int (i ^ j.toNat)) else noC
  | _, _ => noC
def dShl : D → D → Cm D
  | .int i, .int j => if 0 ≤ j ∧ j ≤ 1000000 ∧ -(2 ^ 64) < i ∧ i < 2 ^ 64 then ret (.int (i * 2 ^ j.toNat)) else noC
  | _, _ => noC
def dShr : D → D → Cm D
  | .int i, .int j => if 0 ≤ j then ret (.int (i / 2 ^ j.toNat)) else noC
  | _, _ => noC
def dAnd : D → D → Cm D
  | .int i, .int j => ret (.int (Builtin.bitAnd i j))
  | _, _ => noC
def dOr : D → D → Cm D
  | .int i, .int j => ret (.int (Builtin.bitOr i j))
  | _, _ => noC
def dXor : D → D → Cm D
  | .int i, .int j => ret (.int (Builtin.bitXor i j))
  | _, _ => noC
def dNeg : D → Cm D
  | .int i => ret (.int (-i))
  | _ => noC

/-! ### comparisons -/
def dLt : D → D → Cm D
  | .int i, .int j => ret (.bl (decide (i < j)))
  | _, _ => noC
def dLe : D → D → Cm D
  | .int i, .int j => ret (.bl (decide (i ≤ j)))
  | _, _ => noC
def dGt : D → D → Cm D
  | .int i, .int j => ret (.bl (decide (j < i)))
  | _, _ => noC
def dGe : D → D → Cm D
  | .int i, .int j => ret (.bl (decide (j ≤ i)))
  | _, _ => noC
/-- == of values without a heap -/
def eqS : D → D → Option Bool
  | .non, .non => some true
  | .int i, .int j => some (decide (i = j))
  | .bl i, .bl j => some (decide (i = j))
  | .str i, .str j => some (decide (i = j))
  | .non, .int _ => some false | .int _, .non => some false | .non, .bl _ => some false | .bl _, .non => some false
  | .non, .str _ => some false | .str _, .non => some false | .int _, .str _ => some false | .str _, .int _ => some false
  | .bl _, .str _ => some false | .str _, .bl _ => some false
  | _, _ => none
def isNon : D → Bool
  | .non => true
  | _ => false
/-- is a value flat, and == of flat ones -/
def flatD : D → Bool
  | .non => true
  | .bl _ => true
  | .int _ => true
  | .str _ => true
  | _ => false
def eqD : D → D → Bool
  | .non, .non => true
  | .bl a, .bl b => a == b
  | .bl a, .int b => (if a then 1 else 0) == b
  | .int a, .bl b => a == (if b then 1 else 0)
  | .int a, .int b => a == b
  | .str a, .str b => a == b
  | _, _ => false
def inD (x : D) (xs : List D) : Bool := xs.any fun y => eqD y x

/-! ### expressions -/
def cK (d : D) : CE := fun _ => ret d
def cV (i : Nat) : CE := fun e => match sl e i with
  | some d => ret d
  | none => noC
def cBin (f : D → D → Cm D) (a b : CE) : CE := fun e => bnd (a e) fun x => bnd (b e) fun y => f x y
def cUn (f : D → Cm D) (a : CE) : CE := fun e => bnd (a e) f
def aNil : CA := fun _ => ret []
def aCons (a : CE) (r : CA) : CA := fun e => bnd (a e) fun x => bnd (r e) fun xs => ret (x :: xs)
def cTup (a : CA) : CE := fun e => bnd (a e) fun xs => if xs.length ≤ big then ret (.tup xs) else noC
def cLst (a : CA) : CE := fun e => bnd (a e) fun xs => if xs.length ≤ big then alloc (.lst xs) else noC
def cCall (g : List D → Cm D) (a : CA) : CE := fun e => bnd (a e) g
def tE (a : CE) : CT := fun e => bnd (a e) fun x => match x with
  | .bl b => ret b
  | _ => noC
def tNot' (t : CT) : CT := fun e => bnd (t e) fun b => ret (!b)
def tAnd' (t u : CT) : CT := fun e => bnd (t e) fun b => if b = true then u e else ret false
def tOr' (t u : CT) : CT := fun e => bnd (t e) fun b => if b = true then ret true else u e
/-- and, or, not as values, of bools -/
def cAnd (a b : CE) : CE := fun e => bnd (a e) fun x => match x with
  | .bl c => if c = true then b e else ret (.bl false)
  | _ => noC
def cOr (a b : CE) : CE := fun e => bnd (a e) fun x => match x with
  | .bl c => if c = true then ret (.bl true) else b e
  | _ => noC
def cNot (a : CE) : CE := fun e => bnd (a e) fun x => match x with
  | .bl c => ret (.bl (!c))
  | _ => noC
def cIf (t : CT) (a b : CE) : CE := fun e => bnd (t e) fun c => if c = true then a e else b e
/-- data to the depth n -/
def datL (f : D → Option PyData) : List D → Option (List PyData)
  | [] => some []
  | d :: ds => match f d, datL f ds with
    | some x, some xs => some (x :: xs)
    | _, _ => none
def datD (s : Sto) : Nat → D → Option PyData
  | 0, _ => none
  | _ + 1, .non => some .none
  | _ + 1, .bl b => some (.bool b)
  | _ + 1, .int i => some (.int i)
  | _ + 1, .str x => some (.str x)
  | n + 1, .tup ds => (datL (datD s n) ds).map .tuple
  | n + 1, .lst ds => (datL (datD s n) ds).map .list
  | _ + 1, .fn _ => none
  | n + 1, .box j => match lAt s j with
    | some ds => (datL (datD s n) ds).map .list
    | none => none
/-- == : of values without a heap, else of data -/
def eqX (s : Sto) (x y : D) : Option Bool := match eqS x y with
  | some b => some b
  | none => match datD s 9 x, datD s 9 y with
    | some d, some e => if SeqAt.shaped d = true ∧ SeqAt.shaped e = true then some (PyData.eqv d e) else none
    | _, _ => none
def dEq (x y : D) : Cm D := fun s => match eqX s x y with
  | some b => .ok (.bl b) s
  | none => .no
def dNe (x y : D) : Cm D := fun s => match eqX s x y with
  | some b => .ok (.bl (!b)) s
  | none => .no
/-- is, of two truths -/
def dIsB : D → D → Cm D
  | .bl a, .bl b => ret (.bl (decide (a = b)))
  | _, _ => noC
def dNotB : D → D → Cm D
  | .bl a, .bl b => ret (.bl (!decide (a = b)))
  | _, _ => noC
def dBits : D → Cm D
  | .int i => ret (.int (Builtin.Int.intBits i : Nat))
  | _ => noC
def cChain (f g : D → D → Cm D) (a b c : CE) : CE := fun e => bnd (a e) fun x => bnd (b e) fun y => bnd (f x y) fun z => match z with
  | .bl k => if k = true then bnd (c e) fun w => g y w else ret (.bl false)
  | _ => noC
def cChain3 (f g h : D → D → Cm D) (a b c d : CE) : CE := fun e => bnd (a e) fun x => bnd (b e) fun y => bnd (f x y) fun z => match z with
  | .bl k => if k = true then bnd (c e) fun w => bnd (g y w) fun z2 => match z2 with
    | .bl k2 => if k2 = true then bnd (d e) fun v => h w v else ret (.bl false)
    | _ => noC
    else ret (.bl false)
  | _ => noC
def dIsN (x : D) : Cm D := ret (.bl (isNon x))
def dNotN (x : D) : Cm D := ret (.bl (!isNon x))
def dIn (neg : Bool) (x y : D) : Cm D := fun s => match itemsOf s y with
  | some ys => if flatD x = true ∧ ys.all flatD = true then .ok (.bl (if neg then !inD x ys else inD x ys)) s else .no
  | none => .no
def dIx (x y : D) : Cm D := fun s => match rowOf s x, y with
  | some xs, .int i => match atI xs i with
    | some v => .ok v s
    | none => .no
  | _, _ => .no
def cutD (xs : List D) (lo hi : Option Int) : List D := (xs.drop (HT.sIx xs.length 0 lo)).take (HT.sIx xs.length xs.length hi - HT.sIx xs.length 0 lo)
abbrev CO := En → Cm (Option Int)
def oNone : CO := fun _ => ret none
def oSome (a : CE) : CO := fun e => bnd (a e) fun x => match x with
  | .int i => ret (some i)
  | _ => noC
/-- x[a:b] of a tuple (a value), of a list (a new one) -/
def dSl (x : D) (lo hi : Option Int) : Cm D := match x with
  | .tup xs => ret (.tup (cutD xs lo hi))
  | .lst xs => alloc (.lst (cutD xs lo hi))
  | .box j => fun s => match lAt s j with
    | some xs => alloc (.lst (cutD xs lo hi)) s
    | none => .no
  | _ => noC
def cSl (a : CE) (lo hi : CO) : CE := fun e => bnd (a e) fun x => bnd (lo e) fun l => bnd (hi e) fun h => dSl x l h
/-! built-ins by their arguments -/
def bLen : List D → Cm D
  | [x] => fun s => match itemsOf s x with
    | some xs => .ok (.int xs.length) s
    | none => match x with
      | .str z => if z.length ≤ big then .ok (.int z.length) s else .no
      | _ => .no
  | _ => noC
def bMax : List D → Cm D
  | [.int i, .int j] => ret (.int (if j > i then j else i))
  | _ => noC
def bMin : List D → Cm D
  | [.int i, .int j] => ret (.int (if j < i then j else i))
  | _ => noC
def bAbs : List D → Cm D
  | [.int i] => ret (.int (if i < 0 then -i else i))
  | _ => noC
def bInt : List D → Cm D
  | [.int i] => ret (.int i)
  | [.bl k] => ret (.int (if k then 1 else 0))
  | _ => noC
def bList : List D → Cm D
  | [x] => fun s => match itemsOf s x with
    | some xs => alloc (.lst xs) s
    | none => .no
  | _ => noC
def bTuple : List D → Cm D
  | [x] => fun s => match itemsOf s x with
    | some xs => .ok (.tup xs) s
    | none => .no
  | _ => noC
def isBl : D → Bool
  | .bl _ => true
  | _ => false
def blOf : D → Bool
  | .bl b => b
  | _ => true
def bAll : List D → Cm D
  | [.box j] => fun s => match lAt s j with
    | some xs => if xs.all isBl = true then .ok (.bl (xs.all blOf)) s else .no
    | none => .no
  | _ => noC
/-- isinstance of a value and a built-in class, by the classes' names -/
def tyD (s : Sto) : D → Option String
  | .non => some "NoneType"
  | .bl _ => some "bool"
  | .int _ => some "int"
  | .str _ => some "str"
  | .tup _ => some "tuple"
  | .lst _ => none
  | .fn _ => none
  | .box j => match s[j]? with
    | some (.lst _) => some "list"
    | some (.dk _) => some "dict"
    | some (.dt _) => some "dict"
    | _ => none
def dIsi (T : String) (x : D) : Cm D := fun s => match tyD s x with
  | some t => match L2.kitB t T with
    | some b => .ok (.bl b) s
    | none => .no
  | none => .no

def keyD : Key → D
  | .inl i => .int i
  | .inr x => .str x
/-! ### what is walked -/
inductive Src where
  | seq (d : D) | rng (lo : Int) (n : Nat) | zip (a b : D) | enum (k : Int) (d : D) | dkeys (j : Nat) | dits (j : Nat) | dvals (j : Nat) | dkeysT (j : Nat) | rngC (lo c : Int) (n : Nat)
def rngD (lo : Int) (n : Nat) : List D := (List.range n).map fun (i : Nat) => D.int (lo + (i : Int))
def zipD : List D → List D → List D
  | x :: xs, y :: ys => .tup [x, y] :: zipD xs ys
  | _, _ => []
def enumD : Int → List D → List D
  | _, [] => []
  | i, x :: xs => .tup [.int i, x] :: enumD (i + 1) xs
def Src.items (s : Sto) : Src → Option (List D)
  | .seq d => rowOf s d
  | .rng lo n => some (rngD lo n)
  | .rngC lo c n => some ((List.range n).map fun (i : Nat) => D.int (lo + (i : Int) * c))
  | .zip a b => match rowOf s a, rowOf s b with
    | some xs, some ys => some (zipD xs ys)
    | _, _ => none
  | .enum k d => match rowOf s d with
    | some xs => some (enumD k xs)
    | none => none
  | .dkeys j => match s[j]? with
    | some (.fd kvs) => some (kvs.map fun kv => keyD kv.1)
    | _ => none
  | .dits j => match s[j]? with
    | some (.fd kvs) => some (kvs.map fun kv => .tup [keyD kv.1, kv.2])
    | _ => none
  | .dvals j => match s[j]? with
    | some (.fd kvs) => some (kvs.map fun kv => kv.2)
    | _ => none
  | .dkeysT j => match s[j]? with
    | some (.ft kvs) => some (kvs.map fun kv => .tup (kv.1.map keyD))
    | _ => none
abbrev CS' := En → Cm Src
def iSeq (a : CE) : CS' := fun e => bnd (a e) fun d s => match rowOf s d with
  | some _ => .ok (.seq d) s
  | none => .no
def iZip (a b : CE) : CS' := fun e => bnd (a e) fun c => bnd (b e) fun d s => match rowOf s c, rowOf s d with
  | some _, some _ => .ok (.zip c d) s
  | _, _ => .no
def iEnum (k : Int) (a : CE) : CS' := fun e => bnd (a e) fun d s => match rowOf s d with
  | some _ => .ok (.enum k d) s
  | none => .no
def iRng (a : CE) : CS' := fun e => bnd (a e) fun d => match d with
  | .int j => if -(2 ^ 62) ≤ j ∧ j < 2 ^ 62 then ret (.rng 0 j.toNat) else noC
  | _ => noC
def iRng2 (a b : CE) : CS' := fun e => bnd (a e) fun c => bnd (b e) fun d => match c, d with
  | .int i, .int j => if -(2 ^ 62) ≤ i ∧ i < 2 ^ 62 ∧ -(2 ^ 62) ≤ j ∧ j < 2 ^ 62 then ret (.rng i (j - i).toNat) else noC
  | _, _ => noC
inductive Tg where
  | v (i : Nat) | t (is : List Nat) | p (i : Nat) (is : List Nat)
def stAll : En → List Nat → List D → Option En
  | e, [], [] => some e
  | e, i :: is, d :: ds => stAll (st e i (some d)) is ds
  | _, _, _ => none
def bindT : Tg → D → En → Option En
  | .v i, d, e => some (st e i (some d))
  | .t is, .tup ds, e => stAll e is ds
  | .p i is, .tup [x, .tup ds], e => stAll (st e i (some x)) is ds
  | _, _, _ => none
/-- what raises is no run here -/
def pur {α : Type} (m : Cm α) : Cm α := fun s => match m s with
  | .ok a t => .ok a t
  | .ex _ _ _ => .no
  | .no => .no
open Classical in
/-- a list comprehension's turns -/
noncomputable def lcL (src : Src) (all : List D) (tg : Tg) (t : CT) (c : CE) (e : En) : List D → Cm (List D)
  | [] => fun s => if src.items s = some all then .ok [] s else .no
  | x :: r => fun s => if src.items s = some all then (match bindT tg x e with
      | some e' => bnd (pur (t e')) (fun b => if b = true then bnd (pur (c e')) (fun y => bnd (lcL src all tg t c e r) fun ys => ret (y :: ys)) else lcL src all tg t c e r) s
      | none => .no) else .no
noncomputable def cLcA (src : CS') (tg : Tg) (vs : List Nat) (t : CT) (c : CE) : CA := fun e => bnd (src e) fun w s => match w.items s with
  | some all => if all.length ≤ big then lcL w all tg t c (wipeE e vs) all s else .no
  | none => .no
/-- a new list of what comes -/
def cNew (a : CA) : CE := fun e => bnd (a e) fun xs => alloc (.lst xs)
noncomputable def cLc (src : CS') (tg : Tg) (vs : List Nat) (t : CT) (c : CE) : CE := cNew (cLcA src tg vs t c)
/-! a list that nobody holds on to: what is asked of it at once -/
def cChk (a : CA) : CA := fun e => bnd (a e) fun xs => if xs.length ≤ big then ret xs else noC
def pickD (xs : List D) : D → Cm D
  | .int i => match atI xs i with
    | some v => ret v
    | none => noC
  | _ => noC
def cPick (a : CA) (b : CE) : CE := fun e => bnd (a e) fun xs => bnd (b e) fun y => pickD xs y
def inA (neg : Bool) (x : D) (ys : List D) : Cm D := if flatD x = true ∧ ys.all flatD = true then ret (.bl (if neg then !inD x ys else inD x ys)) else noC
def cInA (neg : Bool) (b : CE) (a : CA) : CE := fun e => bnd (b e) fun x => bnd (a e) fun ys => inA neg x ys
def cTp (a : CA) : CE := fun e => bnd (a e) fun xs => ret (.tup xs)
def cLn (a : CA) : CE := fun e => bnd (a e) fun xs => ret (.int xs.length)
def cAllA (a : CA) : CE := fun e => bnd (a e) fun xs => if xs.all isBl = true then ret (.bl (xs.all blOf)) else noC
def intsD : List D → Option (List Int)
  | [] => some []
  | .int i :: r => (intsD r).map (i :: ·)
  | _ :: _ => none
def maxD : List Int → Int
  | [] => 0
  | [x] => x
  | x :: r => max x (maxD r)
def sumA (xs : List D) : Cm D := match intsD xs with
  | some ns => ret (.int ns.sum)
  | none => noC
def maxA (xs : List D) : Cm D := match intsD xs with
  | some ns => if 0 < ns.length then ret (.int (maxD ns)) else noC
  | none => noC
def cSumA (a : CA) : CE := fun e => bnd (a e) sumA
def cMaxA (a : CA) : CE := fun e => bnd (a e) maxA

def tYesD : CT := fun _ => ret true
/-! ### statements -/
inductive Fl where
  | nx (e : En) | rt (d : D) | bk (e : En) | ct (e : En) | ex (c : Str) (fs : List (Str × D)) (e : En)
abbrev CS := En → Cm Fl
/-- an expression within a statement: what it raises leaves with the slots as they are -/
def lft {α : Type} (e : En) (m : Cm α) (k : α → Cm Fl) : Cm Fl := fun s => match m s with
  | .ok a t => k a t
  | .ex c fs t => .ok (.ex c fs e) t
  | .no => .no
def sNil : CS := fun e => ret (.nx e)
def sSeq (a b : CS) : CS := fun e => bnd (a e) fun fl => match fl with
  | .nx e' => b e'
  | .rt d => ret (.rt d)
  | .bk e' => ret (.bk e')
  | .ct e' => ret (.ct e')
  | .ex c fs e' => ret (.ex c fs e')
def sSet (i : Nat) (c : CE) : CS := fun e => lft e (c e) fun d => ret (.nx (st e i (some d)))
def sDrop (c : CE) : CS := fun e => lft e (c e) fun _ => ret (.nx e)
def sRet (c : CE) : CS := fun e => lft e (c e) fun d => ret (.rt d)
def sRetN : CS := fun _ => ret (.rt .non)
def sIf (t : CT) (a b : CS) : CS := fun e => lft e (t e) fun c => if c = true then a e else b e
def sBreak : CS := fun e => ret (.bk e)
def sCont : CS := fun e => ret (.ct e)
def sNever : CS := fun _ => noC
def sAug (i : Nat) (f : D → D → Cm D) (c : CE) : CS := fun e => match sl e i with
  | some x => lft e (c e) fun y => lft e (f x y) fun z => ret (.nx (st e i (some z)))
  | none => noC
/-- o[i] = v of a list -/
def dPutL (o i v : D) : Cm Unit := fun s => match o, i with
  | .box j, .int k => match lAt s j with
    | some ds => match ixN ds.length k with
      | some m => .ok () (s.set j (.lst (ds.set m v)))
      | none => .no
    | none => .no
  | _, _ => .no
def sPut (f : D → D → D → Cm Unit) (o i v : CE) : CS := fun e => lft e (v e) fun z => lft e (o e) fun x => lft e (i e) fun y => lft e (f x y z) fun _ => ret (.nx e)
/-- a, b, .. = x, y, .. with plain names -/
def sPar (is : List Nat) (c : CA) : CS := fun e => lft e (c e) fun ds => match stAll e is ds with
  | some e' => ret (.nx e')
  | none => noC
def sUnp (is : List Nat) (c : CE) : CS := fun e => lft e (c e) fun d => match d with
  | .tup ds => match stAll e is ds with
    | some e' => ret (.nx e')
    | none => noC
  | _ => noC
/-- o.append(v), o.extend(v), as expressions -/
def dApp : D → List D → Cm D
  | .box j, [v] => fun s => match lAt s j with
    | some ds => if ds.length < big then .ok .non (s.set j (.lst (ds ++ [v]))) else .no
    | none => .no
  | _, _ => noC
def dExt : D → List D → Cm D
  | .box j, [.box k] => fun s => match lAt s j, lAt s k with
    | some ds, some es => if ds.length + es.length ≤ big then .ok .non (s.set j (.lst (ds ++ es))) else .no
    | _, _ => .no
  | _, _ => noC
def dClear : D → List D → Cm D
  | .box j, [] => fun s => match lAt s j with
    | some _ => .ok .non (s.set j (.lst []))
    | none => .no
  | _, _ => noC
/-- the place of the first that is alike -/
def placeOf (x : D) (xs : List D) : Option Nat := xs.findIdx? fun y => eqD y x
def dIndexL : D → List D → Cm D
  | .box j, [y] => fun s => match lAt s j with
    | some xs => if flatD y = true ∧ xs.all flatD = true then (match placeOf y xs with
      | some k => .ok (.int k) s
      | none => .no) else .no
    | none => .no
  | _, _ => noC
def strsD : List D → Option (List Str)
  | [] => some []
  | .str x :: r => (strsD r).map (x :: ·)
  | _ :: _ => none
def dIndexT : D → List D → Cm D
  | .tup xs, [.str z] => match strsD xs with
    | some ys => (match ys.findIdx? fun y => decide (y = z) with
      | some k => ret (.int k)
      | none => noC)
    | none => noC
  | _, _ => noC
/-- d.index(e) of a tuple of written texts -/
def tupIx (ys : List Str) : D → Cm D
  | .str z => match ys.findIdx? fun y => decide (y = z) with
    | some k => ret (.int k)
    | none => noC
  | _ => noC
/-- a method of a tuple -/
def chkT : D → Cm Unit
  | .tup _ => ret ()
  | _ => noC
def cBmT (f : D → List D → Cm D) (o : CE) (a : CA) : CE := fun e => bnd (o e) fun x => bnd (chkT x) fun _ => bnd (a e) fun xs => f x xs
/-! the module's own tables: dicts with written texts as keys -/
def tabV (tbl : List (Str × D)) (z : Str) : Option D := (tbl.find? fun p => decide (p.1 = z)).map (·.2)
def tabIx (tbl : List (Str × D)) : D → Cm D
  | .str z => match tabV tbl z with
    | some d => ret d
    | none => noC
  | _ => noC
def tabIn (neg : Bool) (tbl : List (Str × D)) : D → Cm D
  | .str z => ret (.bl (if neg then !(tabV tbl z).isSome else (tabV tbl z).isSome))
  | _ => noC
def tabGet (tbl : List (Str × D)) : D → D → Cm D
  | .str z, d => ret ((tabV tbl z).getD d)
  | _, _ => noC
def chkL : D → Cm Unit
  | .box j => fun s => match lAt s j with
    | some _ => .ok () s
    | none => .no
  | _ => noC
def cBmL (f : D → List D → Cm D) (o : CE) (a : CA) : CE := fun e => bnd (o e) fun x => bnd (chkL x) fun _ => bnd (a e) fun xs => f x xs
open Classical in
noncomputable def forL (src : Src) (all : List D) (tg : Tg) (b : CS) : List D → En → Cm Fl
  | [], e => fun s => if src.items s = some all then .ok (.nx e) s else .no
  | x :: r, e => fun s => if src.items s = some all then (match bindT tg x e with
      | some e' => bnd (b e') (fun fl => match fl with
        | .nx e2 => forL src all tg b r e2
        | .ct e2 => forL src all tg b r e2
        | .bk e2 => ret (.nx e2)
        | .rt d => ret (.rt d)
        | .ex c fs e2 => ret (.ex c fs e2)) s
      | none => .no) else .no
noncomputable def sFor (src : CS') (tg : Tg) (b : CS) : CS := fun e => lft e (src e) fun w s => match w.items s with
  | some all => forL w all tg b all e s
  | none => .no
def whileN (t : CT) (b : CS) : Nat → En → Cm Fl
  | 0, _ => noC
  | n + 1, e => lft e (t e) fun c => if c = true then bnd (b e) (fun fl => match fl with
        | .nx e2 => whileN t b n e2
        | .ct e2 => whileN t b n e2
        | .bk e2 => ret (.nx e2)
        | .rt d => ret (.rt d)
        | .ex c fs e2 => ret (.ex c fs e2)) else ret (.nx e)
def turnsMost : Nat := 100000
def sWhile (t : CT) (b : CS) : CS := whileN t b turnsMost
/-- a def: its arguments into the first slots -/
def dfn (n m : Nat) (body : CS) : List D → Cm D := fun ds => if ds.length = n then
    bnd (body (ds.map some ++ List.replicate (m - n) none)) (fun fl => match fl with
      | .nx _ => ret .non
      | .rt d => ret d
      | .ex c fs _ => fun s => .ex c fs s
      | .bk _ => noC
      | .ct _ => noC) else noC
/-! ### own dicts with ints and texts as keys -/
def keyOf : D → Option Key
  | .int i => some (.inl i)
  | .str x => some (.inr x)
  | _ => none
abbrev CP := En → Cm (List (Key × D))
def pNil : CP := fun _ => ret []
def pCons (k v : CE) (r : CP) : CP := fun e => bnd (k e) fun x => bnd (v e) fun y => bnd (r e) fun ps => match keyOf x with
  | some q => ret ((q, y) :: ps)
  | none => noC
def putD (kvs : List (Key × D)) (k : Key) (v : D) : List (Key × D) :=
  if (kvs.any fun kv => decide (kv.1 = k)) = true then kvs.map (fun kv => if kv.1 = k then (kv.1, v) else kv) else kvs ++ [(k, v)]
def mergeD (kvs more : List (Key × D)) : List (Key × D) := more.foldl (fun acc kv => putD acc kv.1 kv.2) kvs
def endDisp (b : D) (ps : List (Key × D)) : Cm D := fun s => match b with
  | .box j => (match s[j]? with
    | some (.dk []) => if ps.length ≤ 15 then .ok b (s.set j (.dk (mergeD [] ps))) else .no
    | _ => .no)
  | _ => .no
def cDisp (a : CP) : CE := fun e => bnd (alloc (.dk [])) fun b => bnd (a e) fun ps => endDisp b ps
def valD (kvs : List (Key × D)) (k : Key) : Option D := (kvs.find? fun kv => decide (kv.1 = k)).map (·.2)
/-- a dict, to be read (locked or not); to be written -/
def dkAt (s : Sto) : D → Option (List (Key × D))
  | .box j => (match s[j]? with
    | some (.dk kvs) => some kvs
    | some (.fd kvs) => some kvs
    | _ => none)
  | _ => none
def dkWr (s : Sto) : D → Option (List (Key × D))
  | .box j => (match s[j]? with
    | some (.dk kvs) => some kvs
    | _ => none)
  | _ => none
def dIx2 (x y : D) : Cm D := fun s => match dkAt s x with
  | some kvs => (match keyOf y with
    | some k => (match valD kvs k with
      | some d => .ok d s
      | none => .no)
    | none => .no)
  | none => dIx x y s
def dPut2 (o i v : D) : Cm Unit := fun s => match dkWr s o, o with
  | some kvs, .box j => (match keyOf i with
    | some k => if kvs.length < big then .ok () (s.set j (.dk (putD kvs k v))) else .no
    | none => .no)
  | _, _ => dPutL o i v s
def chkD (x : D) : Cm Unit := fun s => match dkAt s x with
  | some _ => .ok () s
  | none => .no
def dGetD (x y z : D) : Cm D := fun s => match dkAt s x, keyOf y with
  | some kvs, some k => .ok ((valD kvs k).getD z) s
  | _, _ => .no
def cGetD (o k d : CE) : CE := fun e => bnd (o e) fun x => bnd (chkD x) fun _ => bnd (k e) fun y => bnd (d e) fun z => dGetD x y z
def dIn2 (neg : Bool) (x y : D) : Cm D := fun s => match dkAt s y with
  | some kvs => (match keyOf x with
    | some k => .ok (.bl (if neg then !(valD kvs k).isSome else (valD kvs k).isSome)) s
    | none => .no)
  | none => dIn neg x y s
/-! ### a, b, .. = a tuple or a list -/
def sUnp2 (is : List Nat) (c : CE) : CS := fun e => lft e (c e) fun d s => match itemsOf s d with
  | some ds => (match stAll e is ds with
    | some e' => .ok (.nx e') s
    | none => .no)
  | none => .no
/-! ### objects of the program's own classes -/
def objAt (c : Str) (s : Sto) : D → Option (List (Str × D))
  | .box j => (match s[j]? with
    | some (.ins c' fs) => if c' = c then some fs else none
    | _ => none)
  | _ => none
def lkF : List (Str × D) → Str → Option D
  | [], _ => none
  | (g, d) :: r, f => if g = f then some d else lkF r f
def putFD (f : Str) (v : D) : List (Str × D) → List (Str × D)
  | [] => [(f, v)]
  | (g, x) :: r => if g = f then (g, v) :: r else (g, x) :: putFD f v r
def dFld (c f : Str) (x : D) : Cm D := fun s => match objAt c s x with
  | some fs => (match lkF fs f with
    | some d => .ok d s
    | none => .no)
  | none => .no
def dSetF (c f : Str) (x v : D) : Cm Unit := fun s => match objAt c s x, x with
  | some fs, .box j => if fs.length < 1000 then .ok () (s.set j (.ins c (putFD f v fs))) else .no
  | _, _ => .no
def sFld (c f : Str) (o v : CE) : CS := fun e => lft e (v e) fun z => lft e (o e) fun x => lft e (dSetF c f x z) fun _ => ret (.nx e)
def chkO (c m : Str) (x : D) : Cm Unit := fun s => match objAt c s x with
  | some fs => if lkF fs m = none then .ok () s else .no
  | none => .no
def cMth (c m : Str) (g : List D → Cm D) (o : CE) (a : CA) : CE := fun e => bnd (o e) fun x => bnd (chkO c m x) fun _ => bnd (a e) fun xs => pur (g (x :: xs))
def retB (b : D) : D → Cm D
  | .non => ret b
  | _ => noC
def cMake (c : Str) (g : List D → Cm D) (a : CA) : CE := fun e => bnd (a e) fun xs => bnd (alloc (.ins c [])) fun b => bnd (pur (g (b :: xs))) (retB b)
/-! ### more of dicts -/
def cNewD : CE := fun _ => alloc (.dk [])
/-- dict(d) -/
def bDict : List D → Cm D
  | [x] => fun s => match dkAt s x with
    | some kvs => alloc (.dk kvs) s
    | none => .no
  | _ => noC
/-- d.update(e) -/
def dUpd (x y : D) : Cm D := fun s => match dkWr s x, dkAt s y, x, y with
  | some kvs, some more, .box i, .box j => if i ≠ j ∧ kvs.length + more.length ≤ big then .ok .non (s.set i (.dk (mergeD kvs more))) else .no
  | _, _, _, _ => .no
def cUpd (o k : CE) : CE := fun e => bnd (o e) fun x => bnd (chkD x) fun _ => bnd (k e) fun y => dUpd x y
/-- == of two dicts: where they are alike -/
def alikeD (ks ls : List (Key × D)) : Bool := decide (ks.length = ls.length) && ks.all fun p => match valD ls p.1 with
  | some d => flatD p.2 && decide (eqS d p.2 = some true)
  | none => false
def dEq2 (x y : D) : Cm D := fun s => match dkWr s x, dkWr s y with
  | some ks, some ls => if alikeD ks ls = true then .ok (.bl true) s else .no
  | _, _ => dEq x y s
def dNe2 (x y : D) : Cm D := fun s => match dkWr s x, dkWr s y with
  | some ks, some ls => if alikeD ks ls = true then .ok (.bl false) s else .no
  | _, _ => dNe x y s
/-! a loop over a dict's keys: the dict is locked meanwhile -/
def iKeysF (i : Nat) : CS' := fun e s => match sl e i with
  | some (.box j) => (match s[j]? with
    | some (.fd _) => .ok (.dkeys j) s
    | _ => .no)
  | _ => .no
def iItsF (i : Nat) : CS' := fun e s => match sl e i with
  | some (.box j) => (match s[j]? with
    | some (.fd _) => .ok (.dits j) s
    | _ => .no)
  | _ => .no
def iValsF (i : Nat) : CS' := fun e s => match sl e i with
  | some (.box j) => (match s[j]? with
    | some (.fd _) => .ok (.dvals j) s
    | _ => .no)
  | _ => .no
open Classical in
noncomputable def sLock (i : Nat) (c : CS) : CS := fun e s => match sl e i with
  | some (.box j) => (match s[j]? with
    | some (.dk kvs) => (match c e (s.set j (.fd kvs)) with
      | .ok fl t => if t[j]? = some (.fd kvs) ∧ (∀ c fs e', fl ≠ .ex c fs e') then .ok fl (t.set j (.dk kvs)) else .no
      | _ => .no)
    | _ => .no)
  | _ => .no
open Classical in
noncomputable def cLock (i : Nat) (c : CE) : CE := fun e s => match sl e i with
  | some (.box j) => (match s[j]? with
    | some (.dk kvs) => (match c e (s.set j (.fd kvs)) with
      | .ok d t => if t[j]? = some (.fd kvs) then .ok d (t.set j (.dk kvs)) else .no
      | _ => .no)
    | _ => .no)
  | _ => .no
open Classical in
/-- the same of a list that nobody holds on to -/
noncomputable def aLock (i : Nat) (c : CA) : CA := fun e s => match sl e i with
  | some (.box j) => (match s[j]? with
    | some (.dk kvs) => (match c e (s.set j (.fd kvs)) with
      | .ok d t => if t[j]? = some (.fd kvs) then .ok d (t.set j (.dk kvs)) else .no
      | _ => .no)
    | _ => .no)
  | _ => .no
end G

set_option Elab.async false
set_option linter.all false
set_option maxRecDepth 100000
set_option maxHeartbeats 4000000
/-! G, soundness: what the data level's values are in the hand layer's heap, and that each combinator's run is the construct's. -/
namespace G
open PySem L2 PySem.Spec PyProof.Rows

/-! ### values -/
/-- the heap without the boxes -/
def hid (bs : List Addr) (H : Hp) : Hp := fun a => if a ∈ bs then none else H a
theorem hid_some {bs : List Addr} {H : Hp} {a : Addr} {o : HO} (h : hid bs H a = some o) : a ∉ bs ∧ H a = some o := by
  unfold hid at h
  split at h
  · cases h
  · exact ⟨by assumption, h⟩
theorem hid_of {bs : List Addr} {H : Hp} {a : Addr} {o : HO} (n : a ∉ bs) (h : H a = some o) : hid bs H a = some o := by
  unfold hid
  rw [if_neg n, h]
/-- a list that nobody changes: frozen, or of the written part -/
def FzL (K : PySem.W.Frag) (H : Hp) (a : Addr) (xs : List V) : Prop := (∃ o, H a = some (.frz o (.lst xs))) ∨
  ∃ (o : Obj) (its : Array Value) (n : Nat), K.lookup a = some o ∧ o.cls = .type "list" ∧ o.dict = none ∧ o.data = .seq its n ∧ its.size ≤ sizeLine ∧ Vals xs its.toList
theorem FzL.sq {K : PySem.W.Frag} {H : Hp} {a : Addr} {xs : List V} (h : FzL K H a xs) : SqL K H a xs := by
  rcases h with ⟨o, h⟩ | h
  · exact .inl (.inr ⟨o, h⟩)
  · exact .inr h
mutual
inductive Rp (K : PySem.W.Frag) (cl : Str → Addr) (bs : List Addr) (H : Hp) : D → V → Prop
  | non : Rp K cl bs H .non .non
  | bl (b : Bool) : Rp K cl bs H (.bl b) (.bl b)
  | int (i : Int) : Rp K cl bs H (.int i) (.int i)
  | str (x : Str) : Rp K cl bs H (.str x) (.str x)
  | tup {ds : List D} {p : Addr} {vs : List V} (h : SqT K (hid bs H) p vs) (r : RpL K cl bs H ds vs) : Rp K cl bs H (.tup ds) (.ref p)
  | lst {ds : List D} {p : Addr} {vs : List V} (h : FzL K (hid bs H) p vs) (r : RpL K cl bs H ds vs) : Rp K cl bs H (.lst ds) (.ref p)
  | box {j : Nat} {p : Addr} (h : bs[j]? = some p) : Rp K cl bs H (.box j) (.ref p)
  | fn (x : Str) : Rp K cl bs H (.fn x) (.ref (cl x))
inductive RpL (K : PySem.W.Frag) (cl : Str → Addr) (bs : List Addr) (H : Hp) : List D → List V → Prop
  | nil : RpL K cl bs H [] []
  | cons {d : D} {v : V} {ds : List D} {vs : List V} (h : Rp K cl bs H d v) (r : RpL K cl bs H ds vs) : RpL K cl bs H (d :: ds) (v :: vs)
end
/-- an object and what stands at its address; cl: where the classes stand -/
def FsR (K : PySem.W.Frag) (cl : Str → Addr) (bs : List Addr) (H : Hp) : List (Str × D) → List (Str × V) → Prop := Paired fun (p : Str × D) (q : Str × V) => p.1 = q.1 ∧ Rp K cl bs H p.2 q.2
def KvR {κ : Type} (K : PySem.W.Frag) (cl : Str → Addr) (bs : List Addr) (H : Hp) : List (κ × D) → List (κ × V) → Prop := Paired fun (p : κ × D) (q : κ × V) => p.1 = q.1 ∧ Rp K cl bs H p.2 q.2
/-- a caught exception that is kept: at a, of the class at C, its own dict at d -/
def xo (a C : Addr) (d : Option Addr) : HO := .ext fun h => ∃ (oe : Obj) (vs : Array Value), h.get? a = some oe ∧ oe.cls = .ref C ∧ oe.dict = d ∧ oe.data = .fields vs
theorem xo_im {a C : Addr} {d : Option Addr} : (∀ xs, xo a C d ≠ .lst xs) ∧ (∀ xs, xo a C d ≠ .tup xs) ∧ (∀ ob x, xo a C d ≠ .frz ob x) ∧ (∀ xs, xo a C d ≠ .dK xs) ∧ (∀ xs, xo a C d ≠ .dT xs) ∧ (∀ D e fs, xo a C d ≠ .ins D e fs) ∧ (∀ fs, xo a C d ≠ .xd fs) := by
  unfold xo
  refine ⟨?_, ?_, ?_, ?_, ?_, ?_, ?_⟩ <;> (intros; intro z; cases z)
def MoR (K : PySem.W.Frag) (cl : Str → Addr) (bs : List Addr) (H : Hp) : MO → HO → Prop
  | .lst ds, .lst vs => RpL K cl bs H ds vs
  | .dk ds, .dK vs => KvR K cl bs H ds vs
  | .fd ds, .frz _ (.dK vs) => KvR K cl bs H ds vs
  | .dt ds, .dT vs => KvR K cl bs H ds vs
  | .ft ds, .frz _ (.dT vs) => KvR K cl bs H ds vs
  | .ins c fs, .ins C _ gs => C = cl c ∧ FsR K cl bs H fs gs
  | .exo c j fs, o => ∃ (a : Addr) (dx : Option Addr), bs[j]? = some a ∧ o = xo a (cl c) dx ∧ (fs = [] → dx = none) ∧ (fs ≠ [] → ∃ dd gs, dx = some dd ∧ hid bs H dd = some (.xd gs) ∧ FsR K cl bs H fs gs)
  | _, _ => False
/-- from (bs, H) to (bs', H'): more boxes, and all that is no box stands as it was -/
structure Gr (bs : List Addr) (H : Hp) (bs' : List Addr) (H' : Hp) : Prop where
  pre : ∃ e, bs' = bs ++ e
  keep : ∀ a o, H a = some o → a ∉ bs → H' a = some o ∧ a ∉ bs'
  fz : ∀ a ob x, H a = some (.frz ob x) → H' a = some (.frz ob x)
theorem Gr.refl (bs : List Addr) (H : Hp) : Gr bs H bs H := ⟨⟨[], by simp⟩, fun _ _ h n => ⟨h, n⟩, fun _ _ _ h => h⟩
theorem Gr.trans {b1 b2 b3 : List Addr} {H1 H2 H3 : Hp} (g : Gr b1 H1 b2 H2) (g' : Gr b2 H2 b3 H3) : Gr b1 H1 b3 H3 := by
  obtain ⟨⟨e, he⟩, k, f⟩ := g
  obtain ⟨⟨e', he'⟩, k', f'⟩ := g'
  exact ⟨⟨e ++ e', by rw [he', he, List.append_assoc]⟩, fun a o h n => let ⟨h1, n1⟩ := k a o h n; k' a o h1 n1, fun a ob x h => f' a ob x (f a ob x h)⟩
theorem Gr.hid {bs bs' : List Addr} {H H' : Hp} (g : Gr bs H bs' H') : ∀ a o, hid bs H a = some o → hid bs' H' a = some o := fun a o h => by
  obtain ⟨n, h⟩ := hid_some h
  obtain ⟨h', n'⟩ := g.keep a o h n
  exact hid_of n' h'
theorem Gr.at {bs bs' : List Addr} {H H' : Hp} (g : Gr bs H bs' H') {j : Nat} {p : Addr} (h : bs[j]? = some p) : bs'[j]? = some p := by
  obtain ⟨e, rfl⟩ := g.pre
  obtain ⟨hl, _⟩ := List.getElem?_eq_some_iff.mp h
  rw [List.getElem?_append_left hl, h]
theorem sqT_mono {K : PySem.W.Frag} {H H' : Hp} (e : ∀ a o, H a = some o → H' a = some o) {a : Addr} {xs : List V} (h : SqT K H a xs) : SqT K H' a xs := by
  rcases h with (h | ⟨o, h⟩) | h
  · exact .inl (.inl (e _ _ h))
  · exact .inl (.inr ⟨o, e _ _ h⟩)
  · exact .inr h
theorem fzL_mono {K : PySem.W.Frag} {H H' : Hp} (e : ∀ a o, H a = some o → H' a = some o) {a : Addr} {xs : List V} (h : FzL K H a xs) : FzL K H' a xs := by
  rcases h with ⟨o, h⟩ | h
  · exact .inl ⟨o, e _ _ h⟩
  · exact .inr h
section
variable {K : PySem.W.Frag} {cl : Str → Addr} {bs bs' : List Addr} {H H' : Hp}
mutual
theorem Rp.up (eh : ∀ a o, hid bs H a = some o → hid bs' H' a = some o) (eb : ∀ (j : Nat) p, bs[j]? = some p → bs'[j]? = some p) : ∀ {d : D} {v : V}, Rp K cl bs H d v → Rp K cl bs' H' d v
  | .non, _, .non => .non
  | .bl _, _, .bl b => .bl b
  | .int _, _, .int i => .int i
  | .str _, _, .str x => .str x
  | .tup _, _, .tup h r => .tup (sqT_mono eh h) (RpL.up eh eb r)
  | .lst _, _, .lst h r => .lst (fzL_mono eh h) (RpL.up eh eb r)
  | .box _, _, .box h => .box (eb _ _ h)
  | .fn _, _, .fn x => .fn x
theorem RpL.up (eh : ∀ a o, hid bs H a = some o → hid bs' H' a = some o) (eb : ∀ (j : Nat) p, bs[j]? = some p → bs'[j]? = some p) : ∀ {ds : List D} {vs : List V}, RpL K cl bs H ds vs → RpL K cl bs' H' ds vs
  | [], _, .nil => .nil
  | _ :: _, _, .cons h r => .cons (Rp.up eh eb h) (RpL.up eh eb r)
end
theorem Rp.mono (g : Gr bs H bs' H') {d : D} {v : V} (h : Rp K cl bs H d v) : Rp K cl bs' H' d v := h.up g.hid fun _ _ => g.at
theorem RpL.mono (g : Gr bs H bs' H') {ds : List D} {vs : List V} (h : RpL K cl bs H ds vs) : RpL K cl bs' H' ds vs := h.up g.hid fun _ _ => g.at
theorem paired_up {α β : Type} {F F' : α → β → Prop} (h : ∀ a b, F a b → F' a b) : ∀ {l : List α} {m : List β}, Paired F l m → Paired F' l m
  | _, _, .nil => .nil
  | _, _, .cons r t => .cons (h _ _ r) (paired_up h t)
theorem MoR.up (eh : ∀ a o, hid bs H a = some o → hid bs' H' a = some o) (eb : ∀ (j : Nat) p, bs[j]? = some p → bs'[j]? = some p) {m : MO} {o : HO} (h : MoR K cl bs H m o) : MoR K cl bs' H' m o := by
  cases m with
  | lst ds =>
    cases o with
    | lst vs => exact RpL.up eh eb (show RpL K cl bs H ds vs from h)
    | _ => exact (show False from h).elim
  | dk ds =>
    cases o with
    | dK vs => exact paired_up (fun a b q => ⟨q.1, q.2.up eh eb⟩) (show KvR K cl bs H ds vs from h)
    | _ => exact (show False from h).elim
  | dt ds =>
    cases o with
    | dT vs => exact paired_up (fun a b q => ⟨q.1, q.2.up eh eb⟩) (show KvR K cl bs H ds vs from h)
    | _ => exact (show False from h).elim
  | fd ds =>
    cases o with
    | frz ob u =>
      cases u with
      | dK vs => exact paired_up (fun a b q => ⟨q.1, q.2.up eh eb⟩) (show KvR K cl bs H ds vs from h)
      | _ => exact (show False from h).elim
    | _ => exact (show False from h).elim
  | ft ds =>
    cases o with
    | frz ob u =>
      cases u with
      | dT vs => exact paired_up (fun a b q => ⟨q.1, q.2.up eh eb⟩) (show KvR K cl bs H ds vs from h)
      | _ => exact (show False from h).elim
    | _ => exact (show False from h).elim
  | ins c fs =>
    cases o with
    | ins C dx gs =>
      obtain ⟨h1, h2⟩ := (show C = cl c ∧ FsR K cl bs H fs gs from h)
      exact ⟨h1, paired_up (fun a b q => ⟨q.1, q.2.up eh eb⟩) h2⟩
    | _ => exact (show False from h).elim
  | exo c j fs =>
    obtain ⟨a, dx, h1, h2, h0, h3⟩ := (show ∃ (a : Addr) (dx : Option Addr), bs[j]? = some a ∧ o = xo a (cl c) dx ∧ (fs = [] → dx = none) ∧ (fs ≠ [] → ∃ dd gs, dx = some dd ∧ hid bs H dd = some (.xd gs) ∧ FsR K cl bs H fs gs) from h)
    refine ⟨a, dx, eb _ _ h1, h2, h0, fun z => ?_⟩
    obtain ⟨dd, gs, e1, e2, e3⟩ := h3 z
    exact ⟨dd, gs, e1, eh _ _ e2, paired_up (fun a b q => ⟨q.1, q.2.up eh eb⟩) e3⟩
theorem MoR.mono (g : Gr bs H bs' H') {m : MO} {o : HO} (h : MoR K cl bs H m o) : MoR K cl bs' H' m o := h.up g.hid fun _ _ => g.at
theorem RpL.length {ds : List D} {vs : List V} : RpL K cl bs H ds vs → ds.length = vs.length := by
  induction ds generalizing vs with
  | nil => intro h; cases h; rfl
  | cons d ds ih => intro h; cases h with | cons h r => simp [ih r]
theorem RpL.get {ds : List D} {vs : List V} (h : RpL K cl bs H ds vs) {i : Nat} {d : D} (e : ds[i]? = some d) : ∃ v, vs[i]? = some v ∧ Rp K cl bs H d v := by
  induction ds generalizing vs i with
  | nil => simp at e
  | cons x ds ih =>
    cases h with
    | cons h r =>
      cases i with
      | zero => simp at e; subst e; exact ⟨_, rfl, h⟩
      | succ n => exact ih r (by simpa using e)
theorem RpL.get' {ds : List D} {vs : List V} (h : RpL K cl bs H ds vs) {i : Nat} {v : V} (e : vs[i]? = some v) : ∃ d, ds[i]? = some d ∧ Rp K cl bs H d v := by
  induction ds generalizing vs i with
  | nil => cases h; simp at e
  | cons x ds ih =>
    cases h with
    | cons h r =>
      cases i with
      | zero => simp at e; subst e; exact ⟨_, rfl, h⟩
      | succ n => exact ih r (by simpa using e)
theorem RpL.append {ds es : List D} {vs us : List V} (h : RpL K cl bs H ds vs) (h' : RpL K cl bs H es us) : RpL K cl bs H (ds ++ es) (vs ++ us) := by
  induction ds generalizing vs with
  | nil => cases h; exact h'
  | cons d ds ih => cases h with | cons h r => exact .cons h (ih r)
theorem RpL.set {ds : List D} {vs : List V} (h : RpL K cl bs H ds vs) {d : D} {v : V} (hd : Rp K cl bs H d v) (i : Nat) : RpL K cl bs H (ds.set i d) (vs.set i v) := by
  induction ds generalizing vs i with
  | nil => cases h; exact .nil
  | cons x ds ih =>
    cases h with
    | cons h r =>
      cases i with
      | zero => exact .cons hd r
      | succ n => exact .cons h (ih r n)
theorem RpL.take {ds : List D} {vs : List V} (h : RpL K cl bs H ds vs) (n : Nat) : RpL K cl bs H (ds.take n) (vs.take n) := by
  induction ds generalizing vs n with
  | nil => cases h; simp; exact .nil
  | cons x ds ih =>
    cases h with
    | cons h r =>
      cases n with
      | zero => simp; exact .nil
      | succ n => simp; exact .cons h (ih r n)
theorem RpL.drop {ds : List D} {vs : List V} (h : RpL K cl bs H ds vs) (n : Nat) : RpL K cl bs H (ds.drop n) (vs.drop n) := by
  induction ds generalizing vs n with
  | nil => cases h; simp; exact .nil
  | cons x ds ih =>
    cases h with
    | cons h r =>
      cases n with
      | zero => simp; exact .cons h r
      | succ n => simp; exact ih r n
theorem RpL.rep {ds : List D} {vs : List V} (h : RpL K cl bs H ds vs) (n : Nat) : RpL K cl bs H (List.replicate n ds).flatten (List.replicate n vs).flatten := by
  induction n with
  | zero => exact .nil
  | succ n ih => rw [List.replicate_succ, List.replicate_succ]; simp only [List.flatten_cons]; exact h.append ih

/-! ### the store -/
structure StR (K : PySem.W.Frag) (cl : Str → Addr) (bs : List Addr) (s : Sto) (H : Hp) : Prop where
  len : bs.length = s.length
  nd : bs.Nodup
  at_ : ∀ (j : Nat) m, s[j]? = some m → ∃ p o, bs[j]? = some p ∧ H p = some o ∧ MoR K cl bs H m o
variable {s : Sto}
theorem StR.box (S : StR K cl bs s H) {j : Nat} {p : Addr} (h : bs[j]? = some p) : ∃ m o, s[j]? = some m ∧ H p = some o ∧ MoR K cl bs H m o := by
  obtain ⟨hl, _⟩ := List.getElem?_eq_some_iff.mp h
  have hl' : j < s.length := by rw [← S.len]; exact hl
  obtain ⟨p', o, hp, ho, r⟩ := S.at_ j _ (List.getElem?_eq_getElem hl')
  rw [h] at hp; cases hp
  exact ⟨_, o, List.getElem?_eq_getElem hl', ho, r⟩
theorem StR.inDom (S : StR K cl bs s H) {p : Addr} (h : p ∈ bs) : ∃ o, H p = some o := by
  obtain ⟨j, hj⟩ := List.getElem?_of_mem h
  obtain ⟨m, o, _, ho, _⟩ := S.box hj
  exact ⟨o, ho⟩
theorem StR.fresh (S : StR K cl bs s H) {p : Addr} (h : H p = none) : p ∉ bs := fun q => by
  obtain ⟨o, ho⟩ := S.inDom q
  rw [h] at ho; cases ho
/-- a new thing that is no box -/
theorem gr_new {p : Addr} {o : HO} (h : H p = none) : Gr bs H bs (upd H p o) := ⟨⟨[], by simp⟩, fun a u e n => ⟨by rw [upd_ne (ne_of_none e h)]; exact e, n⟩, fun a ob x e => by rw [upd_ne (ne_of_none e h)]; exact e⟩
theorem StR.new (S : StR K cl bs s H) {p : Addr} {o : HO} (h : H p = none) : StR K cl bs s (upd H p o) :=
  ⟨S.len, S.nd, fun j m e => let ⟨q, u, hq, hu, r⟩ := S.at_ j m e; ⟨q, u, hq, by rw [upd_ne (ne_of_none hu h)]; exact hu, r.mono (gr_new h)⟩⟩
/-- a new box -/
theorem gr_box (S : StR K cl bs s H) {p : Addr} {o : HO} (h : H p = none) : Gr bs H (bs ++ [p]) (upd H p o) := ⟨⟨[p], rfl⟩, fun a u e n => by
  have ne : a ≠ p := ne_of_none e h
  refine ⟨by rw [upd_ne ne]; exact e, fun q => ?_⟩
  rcases List.mem_append.mp q with q | q
  · exact n q
  · exact ne (by simpa using q), fun a ob x e => by rw [upd_ne (ne_of_none e h)]; exact e⟩
theorem StR.push (S : StR K cl bs s H) {p : Addr} {o : HO} {m : MO} (h : H p = none) (r : MoR K cl bs H m o) : StR K cl (bs ++ [p]) (s ++ [m]) (upd H p o) := by
  have g := gr_box (o := o) S h
  refine ⟨by simp [S.len], ?_, fun j m' e => ?_⟩
  · rw [List.nodup_append]
    refine ⟨S.nd, by simp, fun a ha b hb q => ?_⟩
    have : b = p := by simpa using hb
    rw [q, this] at ha
    exact S.fresh h ha
  · by_cases hj : j < s.length
    · rw [List.getElem?_append_left hj] at e
      obtain ⟨q, u, hq, hu, r'⟩ := S.at_ j m' e
      exact ⟨q, u, g.at hq, by rw [upd_ne (ne_of_none hu h)]; exact hu, r'.mono g⟩
    · rw [List.getElem?_append_right (by omega)] at e
      have hz : j - s.length = 0 := by
        by_cases z : j - s.length = 0
        · exact z
        · rw [List.getElem?_eq_none (by simp; omega)] at e; cases e
      rw [hz] at e
      simp at e
      subst e
      have : j = bs.length := by have := S.len; omega
      exact ⟨p, o, by rw [this]; simp, upd_same, r.mono g⟩
theorem push_at {p : Addr} (S : StR K cl bs s H) : (bs ++ [p])[s.length]? = some p := by rw [← S.len]; simp
/-- a box is written -/
theorem gr_write {j : Nat} {p : Addr} {o o0 : HO} (hp : bs[j]? = some p) (hw : H p = some o0) (nf : ∀ ob x, o0 ≠ .frz ob x := by intro _ _ z; cases z) : Gr bs H bs (upd H p o) := ⟨⟨[], by simp⟩, fun a u e n => by
  have ne : a ≠ p := fun q => n (by rw [q]; exact List.mem_of_getElem? hp)
  exact ⟨by rw [upd_ne ne]; exact e, n⟩, fun a ob x e => by
  have ne : a ≠ p := fun q => by
    subst q
    rw [hw] at e
    exact nf ob x (Option.some.inj e)
  rw [upd_ne ne]
  exact e⟩
theorem StR.write (S : StR K cl bs s H) {j : Nat} {p : Addr} {o o0 : HO} {m : MO} (hp : bs[j]? = some p) (hw : H p = some o0) (r : MoR K cl bs H m o) (nf : ∀ ob x, o0 ≠ .frz ob x := by intro _ _ z; cases z) : StR K cl bs (s.set j m) (upd H p o) := by
  have g : Gr bs H bs (upd H p o) := gr_write hp hw nf
  refine ⟨by simp [S.len], S.nd, fun i m' e => ?_⟩
  by_cases hi : i = j
  · subst hi
    have hl : i < s.length := by rw [← S.len]; exact (List.getElem?_eq_some_iff.mp hp).1
    rw [List.getElem?_set_self hl] at e
    cases e
    exact ⟨p, o, hp, upd_same, r.mono g⟩
  · rw [List.getElem?_set_ne (Ne.symm hi)] at e
    obtain ⟨q, u, hq, hu, r'⟩ := S.at_ i m' e
    have ne : q ≠ p := fun z => by
      subst z
      obtain ⟨h1, e1⟩ := List.getElem?_eq_some_iff.mp hq
      obtain ⟨h2, e2⟩ := List.getElem?_eq_some_iff.mp hp
      exact hi ((List.getElem_inj S.nd).mp (e1.trans e2.symm))
    exact ⟨q, u, hq, by rw [upd_ne ne]; exact hu, r'.mono g⟩
/-- what never changes -/
def Im (o : HO) : Prop := (∃ xs, o = .tup xs) ∨ (∃ ob x, o = .frz ob x) ∨ ∃ gs, o = .xd gs
theorem sqT_im {H H' : Hp} (e : ∀ a o, Im o → H a = some o → H' a = some o) {a : Addr} {xs : List V} (h : SqT K H a xs) : SqT K H' a xs := by
  rcases h with (h | ⟨o, h⟩) | h
  · exact .inl (.inl (e _ _ (.inl ⟨_, rfl⟩) h))
  · exact .inl (.inr ⟨o, e _ _ (.inr (.inl ⟨_, _, rfl⟩)) h⟩)
  · exact .inr h
theorem fzL_im {H H' : Hp} (e : ∀ a o, Im o → H a = some o → H' a = some o) {a : Addr} {xs : List V} (h : FzL K H a xs) : FzL K H' a xs := by
  rcases h with ⟨o, h⟩ | h
  · exact .inl ⟨o, e _ _ (.inr (.inl ⟨_, _, rfl⟩)) h⟩
  · exact .inr h
mutual
theorem Rp.upI (eh : ∀ a o, Im o → hid bs H a = some o → hid bs H' a = some o) : ∀ {d : D} {v : V}, Rp K cl bs H d v → Rp K cl bs H' d v
  | .non, _, .non => .non
  | .bl _, _, .bl b => .bl b
  | .int _, _, .int i => .int i
  | .str _, _, .str x => .str x
  | .tup _, _, .tup h r => .tup (sqT_im eh h) (RpL.upI eh r)
  | .lst _, _, .lst h r => .lst (fzL_im eh h) (RpL.upI eh r)
  | .box _, _, .box h => .box h
  | .fn _, _, .fn x => .fn x
theorem RpL.upI (eh : ∀ a o, Im o → hid bs H a = some o → hid bs H' a = some o) : ∀ {ds : List D} {vs : List V}, RpL K cl bs H ds vs → RpL K cl bs H' ds vs
  | [], _, .nil => .nil
  | _ :: _, _, .cons h r => .cons (Rp.upI eh h) (RpL.upI eh r)
end
theorem MoR.upI (eh : ∀ a o, Im o → hid bs H a = some o → hid bs H' a = some o) {m : MO} {o : HO} (h : MoR K cl bs H m o) : MoR K cl bs H' m o := by
  cases m with
  | lst ds =>
    cases o with
    | lst vs => exact RpL.upI eh (show RpL K cl bs H ds vs from h)
    | _ => exact (show False from h).elim
  | dk ds =>
    cases o with
    | dK vs => exact paired_up (fun a b q => ⟨q.1, q.2.upI eh⟩) (show KvR K cl bs H ds vs from h)
    | _ => exact (show False from h).elim
  | dt ds =>
    cases o with
    | dT vs => exact paired_up (fun a b q => ⟨q.1, q.2.upI eh⟩) (show KvR K cl bs H ds vs from h)
    | _ => exact (show False from h).elim
  | fd ds =>
    cases o with
    | frz ob u =>
      cases u with
      | dK vs => exact paired_up (fun a b q => ⟨q.1, q.2.upI eh⟩) (show KvR K cl bs H ds vs from h)
      | _ => exact (show False from h).elim
    | _ => exact (show False from h).elim
  | ft ds =>
    cases o with
    | frz ob u =>
      cases u with
      | dT vs => exact paired_up (fun a b q => ⟨q.1, q.2.upI eh⟩) (show KvR K cl bs H ds vs from h)
      | _ => exact (show False from h).elim
    | _ => exact (show False from h).elim
  | ins c fs =>
    cases o with
    | ins C dx gs =>
      obtain ⟨h1, h2⟩ := (show C = cl c ∧ FsR K cl bs H fs gs from h)
      exact ⟨h1, paired_up (fun a b q => ⟨q.1, q.2.upI eh⟩) h2⟩
    | _ => exact (show False from h).elim
  | exo c j fs =>
    obtain ⟨a, dx, h1, h2, h0, h3⟩ := (show ∃ (a : Addr) (dx : Option Addr), bs[j]? = some a ∧ o = xo a (cl c) dx ∧ (fs = [] → dx = none) ∧ (fs ≠ [] → ∃ dd gs, dx = some dd ∧ hid bs H dd = some (.xd gs) ∧ FsR K cl bs H fs gs) from h)
    refine ⟨a, dx, h1, h2, h0, fun z => ?_⟩
    obtain ⟨dd, gs, e1, e2, e3⟩ := h3 z
    exact ⟨dd, gs, e1, eh _ _ (.inr (.inr ⟨gs, rfl⟩)) e2, paired_up (fun a b q => ⟨q.1, q.2.upI eh⟩) e3⟩
/-- the heap without one thing (a list that grows in a comprehension) -/
def rm (p : Addr) (H : Hp) : Hp := fun a => if a = p then none else H a
theorem rm_same {p : Addr} : rm p H p = none := by unfold rm; rw [if_pos rfl]
theorem rm_ne {p a : Addr} (h : a ≠ p) : rm p H a = H a := by unfold rm; rw [if_neg h]
theorem rm_upd {p : Addr} {o : HO} (h : H p = none) : rm p (upd H p o) = H := by
  funext a
  by_cases q : a = p
  · subst q; rw [rm_same, h]
  · rw [rm_ne q, upd_ne q]
theorem rm_upd' {p : Addr} {o : HO} : rm p (upd H p o) = rm p H := by
  funext a
  by_cases q : a = p
  · subst q; rw [rm_same, rm_same]
  · rw [rm_ne q, upd_ne q, rm_ne q]
theorem Gr.rm {p : Addr} (g : Gr bs H bs' H') : Gr bs (rm p H) bs' (rm p H') := ⟨g.pre, fun a o h n => by
  by_cases q : a = p
  · subst q; rw [rm_same] at h; cases h
  · rw [rm_ne q] at h
    rw [rm_ne q]
    exact g.keep a o h n, fun a ob x h => by
  by_cases q : a = p
  · subst q; rw [rm_same] at h; cases h
  · rw [rm_ne q] at h
    rw [rm_ne q]
    exact g.fz a ob x h⟩
theorem im_rm {p : Addr} {xs : List V} (hp : H p = some (.lst xs)) : ∀ a o, Im o → hid bs H a = some o → hid bs (rm p H) a = some o := fun a o i h => by
  obtain ⟨n, h⟩ := hid_some h
  refine hid_of n ?_
  rw [rm_ne (fun q => ?_)]
  · exact h
  · subst q
    rw [hp] at h
    cases h
    rcases i with ⟨_, z⟩ | ⟨_, _, z⟩ | ⟨_, z⟩ <;> cases z
theorem up_rm {p : Addr} : ∀ a o, Im o → hid bs (rm p H) a = some o → hid bs H a = some o := fun a o _ h => by
  obtain ⟨n, h⟩ := hid_some h
  refine hid_of n ?_
  by_cases q : a = p
  · subst q; rw [rm_same] at h; cases h
  · rw [rm_ne q] at h; exact h
theorem StR.rm (S : StR K cl bs s H) {p : Addr} {xs : List V} (hp : H p = some (.lst xs)) (n : p ∉ bs) : StR K cl bs s (rm p H) := ⟨S.len, S.nd, fun j m e => by
  obtain ⟨q, o, hq, ho, r⟩ := S.at_ j m e
  exact ⟨q, o, hq, by rw [rm_ne (fun z => n (by rw [← z]; exact List.mem_of_getElem? hq))]; exact ho, r.upI (im_rm hp)⟩⟩
theorem StR.unrm {p : Addr} (S : StR K cl bs s (G.rm p H)) : StR K cl bs s H := ⟨S.len, S.nd, fun j m e => by
  obtain ⟨q, o, hq, ho, r⟩ := S.at_ j m e
  refine ⟨q, o, hq, ?_, r.upI up_rm⟩
  by_cases z : q = p
  · subst z; rw [rm_same] at ho; cases ho
  · rw [rm_ne z] at ho; exact ho⟩

/-! ### slots -/
structure EnR (K : PySem.W.Frag) (cl : Str → Addr) (bs : List Addr) (H : Hp) (e : En) (σ : L2.St) : Prop where
  len : e.length = σ.length
  at_ : ∀ (i : Nat) d, e[i]? = some (some d) → ∃ v, σ[i]? = some (some v) ∧ Rp K cl bs H d v
theorem EnR.mono (g : Gr bs H bs' H') {e : En} {σ : L2.St} (h : EnR K cl bs H e σ) : EnR K cl bs' H' e σ :=
  ⟨h.len, fun i d q => let ⟨v, a, b⟩ := h.at_ i d q; ⟨v, a, b.mono g⟩⟩
theorem EnR.set {e : En} {σ : L2.St} (h : EnR K cl bs H e σ) (i : Nat) {d : D} {v : V} (r : Rp K cl bs H d v) : EnR K cl bs H (st e i (some d)) (σ.set i (some v)) := by
  refine ⟨by rw [st_len, List.length_set]; exact h.len, fun k d' q => ?_⟩
  rw [st_set] at q
  by_cases hk : k = i
  · subst hk
    by_cases hl : k < e.length
    · rw [List.getElem?_set_self hl] at q
      cases q
      exact ⟨v, by rw [List.getElem?_set_self (by rw [← h.len]; exact hl)], r⟩
    · rw [List.getElem?_eq_none (by simpa using hl)] at q; cases q
  · rw [List.getElem?_set_ne (Ne.symm hk)] at q
    obtain ⟨w, a, b⟩ := h.at_ k d' q
    exact ⟨w, by rw [List.getElem?_set_ne (Ne.symm hk)]; exact a, b⟩
theorem EnR.wipe {e : En} {σ : L2.St} (h : EnR K cl bs H e σ) : ∀ vs : List Nat, EnR K cl bs H (wipeE e vs) (wipe σ vs)
  | [] => h
  | v :: vs => by
    have ih := EnR.wipe h vs
    unfold wipeE L2.wipe
    refine ⟨by rw [st_len, List.length_set]; exact ih.len, fun k d' q => ?_⟩
    rw [st_set] at q
    by_cases hk : k = v
    · subst hk
      by_cases hl : k < (wipeE e vs).length
      · rw [List.getElem?_set_self hl] at q; cases q
      · rw [List.getElem?_eq_none (by simpa using hl)] at q; cases q
    · rw [List.getElem?_set_ne (Ne.symm hk)] at q
      obtain ⟨w, a, b⟩ := ih.at_ k d' q
      exact ⟨w, by rw [List.getElem?_set_ne (Ne.symm hk)]; exact a, b⟩

/-! ### what a run of the data level gives -/
/-- an exception: class and own dict, by name and fields -/
def ExR (K : PySem.W.Frag) (cl : Str → Addr) (bs : List Addr) (H : Hp) (c : Str) (fs : List (Str × D)) (u : Value) (dx : Option Addr) : Prop :=
  u = .ref (cl c) ∧ (fs = [] → dx = none) ∧ (fs ≠ [] → ∃ a gs, dx = some a ∧ a ∉ bs ∧ H a = some (.xd gs) ∧ FsR K cl bs H fs gs)
def Run (K : PySem.W.Frag) (cl : Str → Addr) (W : Value → Option Addr → Hp → Prop) {α : Type} (bs : List Addr) (s : Sto) (H : Hp) (m : Cm α) (P : α → List Addr → Sto → Hp → Prop) : Prop := match m s with
  | .ok a t => ∀ bs' H', Gr bs H bs' H' → StR K cl bs' t H' → P a bs' t H'
  | .ex c fs t => ∀ bs' H' u dx, Gr bs H bs' H' → StR K cl bs' t H' → ExR K cl bs' H' c fs u dx → W u dx H'
  | .no => False
variable {W : Value → Option Addr → Hp → Prop}
theorem Run.bnd {α β : Type} {m : Cm α} {f : α → Cm β} {P : β → List Addr → Sto → Hp → Prop} (h : Run K cl W bs s H (bnd m f) P) :
    Run K cl W bs s H m (fun a bs' t H' => Run K cl W bs' t H' (f a) P) := by
  unfold Run G.bnd at *
  cases e : m s with
  | ok a t =>
    rw [e] at h
    simp only at h ⊢
    intro b1 H1 g1 S1
    cases e2 : f a t with
    | ok b u => rw [e2] at h; exact fun b2 H2 g2 S2 => h b2 H2 (g1.trans g2) S2
    | ex c fs u => rw [e2] at h; exact fun b2 H2 x dx g2 S2 X2 => h b2 H2 x dx (g1.trans g2) S2 X2
    | no => rw [e2] at h; exact h
  | ex c fs t => rw [e] at h; exact h
  | no => rw [e] at h; exact h
theorem Run.imp {α : Type} {m : Cm α} {P P' : α → List Addr → Sto → Hp → Prop} (h : Run K cl W bs s H m P) (hp : ∀ a bs' t H', Gr bs H bs' H' → StR K cl bs' t H' → P a bs' t H' → P' a bs' t H') : Run K cl W bs s H m P' := by
  unfold Run at *
  cases e : m s with
  | ok a t => rw [e] at h; exact fun b1 H1 g1 S1 => hp _ _ _ _ g1 S1 (h b1 H1 g1 S1)
  | ex c fs t => rw [e] at h; exact h
  | no => rw [e] at h; exact h
theorem Run.of_ret {α : Type} {a : α} {P : α → List Addr → Sto → Hp → Prop} (h : Run K cl W bs s H (ret a) P) : ∀ bs' H', Gr bs H bs' H' → StR K cl bs' s H' → P a bs' s H' := h
theorem Run.now {α : Type} {a : α} {P : α → List Addr → Sto → Hp → Prop} (S : StR K cl bs s H) (h : Run K cl W bs s H (G.ret a) P) : P a bs s H := h bs H (Gr.refl _ _) S
theorem Run.of_ok {α : Type} {m : Cm α} {a : α} {t : Sto} {P : α → List Addr → Sto → Hp → Prop} (h : Run K cl W bs s H m P) (e : m s = .ok a t) : ∀ bs' H', Gr bs H bs' H' → StR K cl bs' t H' → P a bs' t H' := by
  unfold Run at h
  rw [e] at h
  exact h
theorem Run.of_no {α : Type} {m : Cm α} {P : α → List Addr → Sto → Hp → Prop} (h : Run K cl W bs s H m P) (e : m s = .no) : False := by
  unfold Run at h
  rw [e] at h
  exact h
theorem Run.of_noC {α : Type} {P : α → List Addr → Sto → Hp → Prop} (h : Run K cl W bs s H noC P) : False := h
/-- the run begins from a grown heap -/
theorem Run.up {α : Type} {m : Cm α} {P : α → List Addr → Sto → Hp → Prop} (g : Gr bs H bs' H') (h : Run K cl W bs s H m P) : Run K cl W bs' s H' m P := by
  unfold Run at *
  cases e : m s with
  | ok a t => rw [e] at h; exact fun b1 H1 g1 S1 => h b1 H1 (g.trans g1) S1
  | ex c fs t => rw [e] at h; exact fun b1 H1 u dx g1 S1 => h b1 H1 u dx (g.trans g1) S1
  | no => rw [e] at h; exact h
end
end G

set_option Elab.async false
set_option linter.all false
set_option maxRecDepth 100000
set_option maxHeartbeats 4000000
/-! G, soundness of expressions. -/
namespace G
open PySem L2 PySem.Spec PyProof.Rows

section
variable {X : Cx} {cl : Str → Addr} {W : WX}
theorem PE.imp {e : Expr} {t t' : TE} (h : PE X e t) (i : ∀ σ H Q, t' σ H Q → t σ H Q) : PE X e t' := ⟨fun pins s σ H Q I q => h.run pins s σ H Q I (i σ H Q q)⟩
theorem PT.imp {e : Expr} {t t' : TT} (h : PT X e t) (i : ∀ σ H Q, t' σ H Q → t σ H Q) : PT X e t' := ⟨fun pins s σ H Q I q => h.run pins s σ H Q I (i σ H Q q)⟩
theorem PW.imp {e : Expr} {t t' : TT} (h : PW X e t) (i : ∀ σ H Q, t' σ H Q → t σ H Q) : PW X e t' := ⟨fun wh pins s σ H Q I q => h.run wh pins s σ H Q I (i σ H Q q)⟩
theorem PA.imp {e : List Expr} {t t' : TA} (h : PA X e t) (i : ∀ σ H Q, t' σ H Q → t σ H Q) : PA X e t' := ⟨fun pos pins s σ H Q I q => h.run pos pins s σ H Q I (i σ H Q q)⟩
theorem PO.imp {e : Option Expr} {t t' : TO} (h : PO X e t) (i : ∀ σ H Q, t' σ H Q → t σ H Q) : PO X e t' := ⟨fun pins s σ H Q I q => h.run pins s σ H Q I (i σ H Q q)⟩
theorem PS.imp {e : Stmt} {t t' : TS} (h : PS X e t) (i : ∀ E σ H, t' E σ H → t E σ H) : PS X e t' := ⟨fun pins s σ H E I q => h.run pins s σ H E I (i E σ H q)⟩
theorem PSs.imp {e : List Stmt} {t t' : TS} (h : PSs X e t) (i : ∀ E σ H, t' E σ H → t E σ H) : PSs X e t' := ⟨fun pins s σ H E I q => h.run pins s σ H E I (i E σ H q)⟩
end

def TEof (K : PySem.W.Frag) (cl : Str → Addr) (W : WX) (c : CE) : TE := fun σ H Q => ∃ bs s e, StR K cl bs s H ∧ EnR K cl bs H e σ ∧ Run K cl (fun u dx H' => W u dx σ H') bs s H (c e) (fun d bs' _ H' => ∀ v, Rp K cl bs' H' d v → Q v H')
def TTof (K : PySem.W.Frag) (cl : Str → Addr) (W : WX) (c : CT) : TT := fun σ H Q => ∃ bs s e, StR K cl bs s H ∧ EnR K cl bs H e σ ∧ Run K cl (fun u dx H' => W u dx σ H') bs s H (c e) (fun b _ _ H' => Q b H')
def TAof (K : PySem.W.Frag) (cl : Str → Addr) (W : WX) (c : CA) : TA := fun σ H Q => ∃ bs s e, StR K cl bs s H ∧ EnR K cl bs H e σ ∧ Run K cl (fun u dx H' => W u dx σ H') bs s H (c e) (fun ds bs' _ H' => ∀ vs, RpL K cl bs' H' ds vs → Q vs H')
def TOof (K : PySem.W.Frag) (cl : Str → Addr) (W : WX) (c : CO) : TO := fun σ H Q => ∃ bs s e, StR K cl bs s H ∧ EnR K cl bs H e σ ∧ Run K cl (fun u dx H' => W u dx σ H') bs s H (c e) (fun o _ _ H' => Q o H')
/-- a new list that nobody holds on to -/
def TLof (K : PySem.W.Frag) (cl : Str → Addr) (W : WX) (c : CA) : TE := fun σ H Q => ∃ bs s e, StR K cl bs s H ∧ EnR K cl bs H e σ ∧ Run K cl (fun u dx H' => W u dx σ H') bs s H (c e) (fun ds bs' _ H' => ∀ p vs, H' p = none → RpL K cl bs' H' ds vs → Q (.ref p) (upd H' p (.lst vs)))
def SL (X : Cx) (cl : Str → Addr) (W : WX) (e : Expr) (c : CA) : Prop := PE X e (TLof X.K cl W c)
def SE (X : Cx) (cl : Str → Addr) (W : WX) (e : Expr) (c : CE) : Prop := PE X e (TEof X.K cl W c)
def ST (X : Cx) (cl : Str → Addr) (W : WX) (e : Expr) (c : CT) : Prop := PT X e (TTof X.K cl W c)
def SW (X : Cx) (cl : Str → Addr) (W : WX) (e : Expr) (c : CT) : Prop := PW X e (TTof X.K cl W c)
def SA (X : Cx) (cl : Str → Addr) (W : WX) (es : List Expr) (c : CA) : Prop := PA X es (TAof X.K cl W c)
def SO (X : Cx) (cl : Str → Addr) (W : WX) (e : Option Expr) (c : CO) : Prop := PO X e (TOof X.K cl W c)

/-! ### operators by values -/
def OpS (K : PySem.W.Frag) (cl : Str → Addr) (f : D → D → Cm D) (r : R2) : Prop :=
  ∀ (W : Value → Option Addr → Hp → Prop) bs s H x y v w (Q : VK), StR K cl bs s H → Rp K cl bs H x v → Rp K cl bs H y w → Run K cl W bs s H (f x y) (fun d bs' _ H' => ∀ v, Rp K cl bs' H' d v → Q v H') → r v w H Q
def UnS (K : PySem.W.Frag) (cl : Str → Addr) (f : D → Cm D) (r : V → Hp → VK → Prop) : Prop :=
  ∀ (W : Value → Option Addr → Hp → Prop) bs s H x v (Q : VK), StR K cl bs s H → Rp K cl bs H x v → Run K cl W bs s H (f x) (fun d bs' _ H' => ∀ v, Rp K cl bs' H' d v → Q v H') → r v H Q
def BuS (K : PySem.W.Frag) (cl : Str → Addr) (f : List D → Cm D) (r : List V → Hp → VK → Prop) : Prop :=
  ∀ (W : Value → Option Addr → Hp → Prop) bs s H ds vs (Q : VK), StR K cl bs s H → RpL K cl bs H ds vs → Run K cl W bs s H (f ds) (fun d bs' _ H' => ∀ v, Rp K cl bs' H' d v → Q v H') → r vs H Q
/-- an operator of the machine does what f says -/
def OpG (X : Cx) (cl : Str → Addr) (m : Value → Value → Sem Value) (f : D → D → Cm D) : Prop := ∃ r, OpR X m r ∧ OpS X.K cl f r

section
variable {K : PySem.W.Frag} {cl : Str → Addr} {bs bs' : List Addr} {H H' : Hp} {s : Sto} {W : Value → Option Addr → Hp → Prop}
theorem Rp.int_inv {i : Int} {v : V} (h : Rp K cl bs H (.int i) v) : v = .int i := by cases h; rfl
theorem Rp.str_inv {i : Str} {v : V} (h : Rp K cl bs H (.str i) v) : v = .str i := by cases h; rfl
theorem Rp.bl_inv {i : Bool} {v : V} (h : Rp K cl bs H (.bl i) v) : v = .bl i := by cases h; rfl
theorem Rp.non_inv {v : V} (h : Rp K cl bs H .non v) : v = .non := by cases h; rfl
theorem lAt_some {j : Nat} {ds : List D} (h : lAt s j = some ds) : s[j]? = some (.lst ds) := by
  unfold lAt at h
  split at h
  · cases h; assumption
  · cases h
theorem StR.lst (S : StR K cl bs s H) {j : Nat} {ds : List D} (h : lAt s j = some ds) {v : V} (r : Rp K cl bs H (.box j) v) : ∃ p vs, v = .ref p ∧ bs[j]? = some p ∧ H p = some (.lst vs) ∧ RpL K cl bs H ds vs := by
  cases r with
  | box hp =>
    obtain ⟨q, o, hq, ho, m⟩ := S.at_ j _ (lAt_some h)
    rw [hp] at hq; cases hq
    cases o with
    | lst vs => exact ⟨_, vs, rfl, hp, ho, m⟩
    | _ => exact (show False from m).elim
/-- the items of a list or a tuple -/
theorem StR.items (S : StR K cl bs s H) {x : D} {ds : List D} (h : itemsOf s x = some ds) {v : V} (r : Rp K cl bs H x v) : ∃ p vs, v = .ref p ∧ (SqL K H p vs ∨ SqT K H p vs) ∧ RpL K cl bs H ds vs := by
  cases x with
  | tup xs =>
    cases h
    cases r with
    | tup h1 h2 => exact ⟨_, _, rfl, .inr (sqT_mono (fun a o e => (hid_some e).2) h1), h2⟩
  | lst xs =>
    cases h
    cases r with
    | lst h1 h2 => exact ⟨_, _, rfl, .inl (fzL_mono (fun a o e => (hid_some e).2) h1).sq, h2⟩
  | box j =>
    obtain ⟨p, vs, e1, _, e2, e3⟩ := S.lst (show lAt s j = some ds from h) r
    exact ⟨p, vs, e1, .inl (SqL.of e2), e3⟩
  | _ => cases h
theorem lAt_run {α : Type} {j : Nat} {f : List D → R α} {P : α → List Addr → Sto → Hp → Prop} {W : Value → Option Addr → Hp → Prop}
    (h : Run K cl W bs s H (fun s => match lAt s j with | some xs => f xs | none => .no) P) : ∃ xs, lAt s j = some xs ∧ Run K cl W bs s H (fun _ => f xs) P := by
  unfold Run at *
  cases e : lAt s j with
  | none => simp only [e] at h
  | some xs => simp only [e] at h; exact ⟨xs, rfl, h⟩
theorem big_line {n : Nat} (h : n ≤ big) : n ≤ sizeLine := Nat.le_trans h (by rw [sizeLine_eq]; decide)
theorem big_lt {n : Nat} (h : n < big) : n < sizeLine := Nat.lt_of_lt_of_le h (by rw [sizeLine_eq]; decide)
theorem Run.ite {α : Type} {c : Prop} [Decidable c] {m : Cm α} {P : α → List Addr → Sto → Hp → Prop} (h : Run K cl W bs s H (if c then m else noC) P) : c ∧ Run K cl W bs s H m P := by
  by_cases hc : c
  · rw [if_pos hc] at h; exact ⟨hc, h⟩
  · rw [if_neg hc] at h; exact h.elim
theorem ops_I0 {f : D → D → Cm D} {g : Int → Int → V} {gd : Int → Int → D} (hf : ∀ i j, f (.int i) (.int j) = ret (gd i j)) (hg : ∀ i j, ∀ (bs : List Addr) (H : Hp), Rp K cl bs H (gd i j) (g i j))
    (hn : ∀ x y, (∀ i j, ¬ (x = .int i ∧ y = .int j)) → f x y = noC) : OpS K cl f (rI0 g) := by
  intro W bs s H x y v w Q S r1 r2 h
  by_cases hx : ∃ i j, x = .int i ∧ y = .int j
  · obtain ⟨i, j, rfl, rfl⟩ := hx
    rw [hf] at h
    exact ⟨i, j, r1.int_inv, r2.int_inv, Run.now S h _ (hg i j _ _)⟩
  · rw [hn x y fun i j q => hx ⟨i, j, q⟩] at h
    exact h.elim
theorem ops_I {f : D → D → Cm D} {C C' : Int → Int → Prop} [∀ i j, Decidable (C' i j)] {g : Int → Int → V} {gd : Int → Int → D} (hf : ∀ i j, f (.int i) (.int j) = if C' i j then ret (gd i j) else noC) (hc : ∀ i j, C' i j → C i j) (hg : ∀ i j, ∀ (bs : List Addr) (H : Hp), Rp K cl bs H (gd i j) (g i j))
    (hn : ∀ x y, (∀ i j, ¬ (x = .int i ∧ y = .int j)) → f x y = noC) : OpS K cl f (rI C g) := by
  intro W bs s H x y v w Q S r1 r2 h
  by_cases hx : ∃ i j, x = .int i ∧ y = .int j
  · obtain ⟨i, j, rfl, rfl⟩ := hx
    rw [hf] at h
    obtain ⟨c, h⟩ := h.ite
    exact ⟨i, j, r1.int_inv, r2.int_inv, hc i j c, Run.now S h _ (hg i j _ _)⟩
  · rw [hn x y fun i j q => hx ⟨i, j, q⟩] at h
    exact h.elim
end
local macro_rules | `(tactic| walk_at "noint") => `(tactic| (intro x y h; cases x <;> cases y <;> first | rfl | exact absurd ⟨rfl, rfl⟩ (h _ _)))
section
variable {X : Cx} {cl : Str → Addr}
theorem og_sub : OpG X cl (binaryOp .Sub) dSub := ⟨_, op_sub, ops_I0 (gd := fun i j => .int (i - j)) (fun _ _ => rfl) (fun _ _ _ _ => .int _) (by walk_at "noint")⟩
theorem os_iadd {K : PySem.W.Frag} : OpS K cl iAdd (rI0 fun i j => .int (i + j)) := ops_I0 (gd := fun i j => .int (i + j)) (fun _ _ => rfl) (fun _ _ _ _ => .int _) (by walk_at "noint")
theorem og_div : OpG X cl (binaryOp .FloorDiv) dDiv := ⟨_, op_fdivW, ops_I (C' := fun _ j => 0 < j ∧ j < 2 ^ 128) (gd := fun i j => .int (i / j)) (fun _ _ => rfl) (fun _ j h => wide_div h.1 (b := 128) (by omega) (by decide) (by decide)) (fun _ _ _ _ => .int _) (by walk_at "noint")⟩
theorem og_mod : OpG X cl (binaryOp .Mod) dMod := ⟨_, op_mod, ops_I (C' := fun _ j => 0 < j) (gd := fun i j => .int (i % j)) (fun _ _ => rfl) (fun _ j h => h) (fun _ _ _ _ => .int _) (by walk_at "noint")⟩
theorem og_pow : OpG X cl (binaryOp .Pow) dPow := ⟨_, op_pow, ops_I (C' := fun i j => 0 ≤ j ∧ j ≤ 1000000 ∧ -(2 ^ 64) < i ∧ i < 2 ^ 64) (gd := fun i j => .int (i ^ j.toNat)) (fun _ _ => rfl) (fun _ j h => ⟨h.1, h.2.1, by omega⟩) (fun _ _ _ _ => .int _) (by walk_at "noint")⟩
theorem og_shl : OpG X cl (binaryOp .LShift) dShl := ⟨_, op_shl, ops_I (C' := fun i j => 0 ≤ j ∧ j ≤ 1000000 ∧ -(2 ^ 64) < i ∧ i < 2 ^ 64) (gd := fun i j => .int (i * 2 ^ j.toNat)) (fun _ _ => rfl) (fun _ j h => ⟨h.1, h.2.1, by omega⟩) (fun _ _ _ _ => .int _) (by walk_at "noint")⟩
theorem og_shr : OpG X cl (binaryOp .RShift) dShr := ⟨_, op_shr, ops_I (C' := fun i j => 0 ≤ j) (gd := fun i j => .int (i / 2 ^ j.toNat)) (fun _ _ => rfl) (fun _ j h => h) (fun _ _ _ _ => .int _) (by walk_at "noint")⟩
theorem og_and : OpG X cl (binaryOp .BitAnd) dAnd := ⟨_, op_and, ops_I0 (gd := fun i j => .int (Builtin.bitAnd i j)) (fun _ _ => rfl) (fun _ _ _ _ => .int _) (by walk_at "noint")⟩
theorem og_or : OpG X cl (binaryOp .BitOr) dOr := ⟨_, op_or, ops_I0 (gd := fun i j => .int (Builtin.bitOr i j)) (fun _ _ => rfl) (fun _ _ _ _ => .int _) (by walk_at "noint")⟩
theorem og_xor : OpG X cl (binaryOp .BitXor) dXor := ⟨_, op_xor, ops_I0 (gd := fun i j => .int (Builtin.bitXor i j)) (fun _ _ => rfl) (fun _ _ _ _ => .int _) (by walk_at "noint")⟩
theorem og_lt : OpG X cl (compareOp .Lt) dLt := ⟨_, op_lt, ops_I0 (gd := fun i j => .bl (decide (i < j))) (fun _ _ => rfl) (fun _ _ _ _ => .bl _) (by walk_at "noint")⟩
theorem og_le : OpG X cl (compareOp .LtE) dLe := ⟨_, op_le, ops_I0 (gd := fun i j => .bl (decide (i ≤ j))) (fun _ _ => rfl) (fun _ _ _ _ => .bl _) (by walk_at "noint")⟩
theorem og_gt : OpG X cl (compareOp .Gt) dGt := ⟨_, op_gt, ops_I0 (gd := fun i j => .bl (decide (j < i))) (fun _ _ => rfl) (fun _ _ _ _ => .bl _) (by walk_at "noint")⟩
theorem og_ge : OpG X cl (compareOp .GtE) dGe := ⟨_, op_ge, ops_I0 (gd := fun i j => .bl (decide (j ≤ i))) (fun _ _ => rfl) (fun _ _ _ _ => .bl _) (by walk_at "noint")⟩
/-- a new tuple, a new list -/
theorem Rp.newT {K : PySem.W.Frag} {bs : List Addr} {H : Hp} {s : Sto} {p : Addr} {ds : List D} {vs : List V} (S : StR K cl bs s H) (h : H p = none) (r : RpL K cl bs H ds vs) : Rp K cl bs (upd H p (.tup vs)) (.tup ds) (.ref p) :=
  .tup (.inl (.inl (hid_of (S.fresh h) upd_same))) (r.mono (gr_new h))
theorem Run.newT {K : PySem.W.Frag} {W : Value → Option Addr → Hp → Prop} {bs : List Addr} {H : Hp} {s : Sto} {p : Addr} {ds : List D} {vs : List V} {Q : VK} (S : StR K cl bs s H) (h : H p = none) (r : RpL K cl bs H ds vs)
    (q : Run K cl W bs s H (ret (D.tup ds)) (fun d bs' _ H' => ∀ v, Rp K cl bs' H' d v → Q v H')) : Q (.ref p) (upd H p (.tup vs)) :=
  q.of_ret bs _ (gr_new h) (S.new h) _ (Rp.newT S h r)
theorem Run.newL {K : PySem.W.Frag} {W : Value → Option Addr → Hp → Prop} {bs : List Addr} {H : Hp} {s : Sto} {p : Addr} {ds : List D} {vs : List V} {Q : VK} (S : StR K cl bs s H) (h : H p = none) (r : RpL K cl bs H ds vs)
    (q : Run K cl W bs s H (alloc (.lst ds)) (fun d bs' _ H' => ∀ v, Rp K cl bs' H' d v → Q v H')) : Q (.ref p) (upd H p (.lst vs)) :=
  q.of_ok (a := .box s.length) rfl (bs ++ [p]) _ (gr_box S h) (S.push h (m := .lst ds) (o := .lst vs) r) _ (.box (push_at S))
theorem og_add : OpG X cl (binaryOp .Add) dAdd := by
  refine ⟨_, (op_add (X := X)).or (op_add_str.or (op_catA.or op_cat)), ?_⟩
  intro W bs s H x y v w Q S r1 r2 h
  have nope : ∀ {x y : D}, dAdd x y = noC → Run X.K cl W bs s H (dAdd x y) (fun d bs' _ H' => ∀ v, Rp X.K cl bs' H' d v → Q v H') → False := fun e z => by
    rw [e] at z
    exact z
  cases x <;> cases y <;> first | exact (nope rfl h).elim | skip
  · exact .inl ⟨_, _, r1.int_inv, r2.int_inv, Run.now S h _ (.int _)⟩
  · rename_i a b
    obtain ⟨c, h⟩ := Run.ite (show Run X.K cl W bs s H (if a.length + b.length ≤ big then (ret (D.str (a ++ b)) : Cm D) else noC) _ from h)
    exact .inr (.inl ⟨_, _, r1.str_inv, r2.str_inv, big_line c, Run.now S h _ (.str _)⟩)
  · rename_i xs ys
    obtain ⟨c, h⟩ := Run.ite (show Run X.K cl W bs s H (if xs.length + ys.length ≤ big then (ret (D.tup (xs ++ ys)) : Cm D) else noC) _ from h)
    cases r1 with
    | tup h1 l1 =>
      cases r2 with
      | tup h2 l2 =>
        have up : ∀ a o, hid bs H a = some o → H a = some o := fun a o e => (hid_some e).2
        refine .inr (.inr (.inl ⟨_, _, _, _, rfl, rfl, sqT_mono up h1, sqT_mono up h2, ?_, fun e => ?_, fun _ e => ?_, fun _ _ p hp => ?_⟩))
        · rw [← l1.length, ← l2.length]; exact big_line c
        · subst e; cases l1; exact Run.now S h _ (.tup h2 l2)
        · subst e; cases l2
          have e0 : xs ++ ([] : List D) = xs := by simp
          rw [e0] at h
          exact Run.now S h _ (.tup h1 l1)
        · exact Run.newT S hp (l1.append l2) h
  · rename_i a b
    have h' : Run X.K cl W bs s H (fun s => match lAt s a, lAt s b with | some xs, some ys => if xs.length + ys.length ≤ big then alloc (.lst (xs ++ ys)) s else .no | _, _ => .no) (fun d bs' _ H' => ∀ v, Rp X.K cl bs' H' d v → Q v H') := h
    cases ea : lAt s a with
    | none => unfold Run at h'; simp only [ea] at h'
    | some xs =>
      cases eb : lAt s b with
      | none => unfold Run at h'; simp only [ea, eb] at h'
      | some ys =>
        obtain ⟨p, vs, rfl, _, hp, l1⟩ := S.lst ea r1
        obtain ⟨q, ws, rfl, _, hq, l2⟩ := S.lst eb r2
        by_cases c : xs.length + ys.length ≤ big
        · refine .inr (.inr (.inr ⟨p, q, vs, ws, rfl, rfl, hp, hq, ?_, fun n hn => ?_⟩))
          · rw [← l1.length, ← l2.length]; exact big_line c
          · refine Run.newL S hn (l1.append l2) (W := W) ?_
            unfold Run at h' ⊢
            simp only [ea, eb, if_pos c] at h'
            exact h'
        · unfold Run at h'; simp only [ea, eb, if_neg c] at h'
theorem og_mul : OpG X cl (binaryOp .Mult) dMul := by
  refine ⟨_, (op_mul (X := X)).or (op_repT.or op_rep), ?_⟩
  intro W bs s H x y v w Q S r1 r2 h
  have nope : ∀ {x y : D}, dMul x y = noC → Run X.K cl W bs s H (dMul x y) (fun d bs' _ H' => ∀ v, Rp X.K cl bs' H' d v → Q v H') → False := fun e z => by
    rw [e] at z
    exact z
  cases x <;> cases y <;> first | exact (nope rfl h).elim | skip
  · rename_i i j
    obtain ⟨c, h⟩ := Run.ite (show Run X.K cl W bs s H (if mulOk i j then (ret (D.int (i * j)) : Cm D) else noC) _ from h)
    exact .inl ⟨_, _, r1.int_inv, r2.int_inv, c, Run.now S h _ (.int _)⟩
  · rename_i xs k
    obtain ⟨c, h⟩ := Run.ite (show Run X.K cl W bs s H (if xs ≠ [] ∧ 2 ≤ k ∧ k ≤ 1000 ∧ xs.length ≤ 1000 then (ret (D.tup (List.replicate k.toNat xs).flatten) : Cm D) else noC) _ from h)
    cases r1 with
    | tup h1 l1 =>
      have up : ∀ a o, hid bs H a = some o → H a = some o := fun a o e => (hid_some e).2
      obtain ⟨c1, c2, c3, c4⟩ := c
      refine .inr (.inl ⟨_, k, _, rfl, r2.int_inv, sqT_mono up h1, ?_, c2, c3, ?_, fun p hp => Run.newT S hp (l1.rep _) h⟩)
      · intro e; subst e; cases l1; exact c1 rfl
      · rw [← l1.length]; exact c4
  · rename_i a k
    have h' : Run X.K cl W bs s H (fun s => match lAt s a with | some xs => if -(2 ^ 62) < k ∧ k < 2 ^ 62 ∧ xs.length * k.toNat ≤ big then alloc (.lst (List.replicate k.toNat xs).flatten) s else .no | _ => .no) (fun d bs' _ H' => ∀ v, Rp X.K cl bs' H' d v → Q v H') := h
    cases ea : lAt s a with
    | none => unfold Run at h'; simp only [ea] at h'
    | some xs =>
      obtain ⟨p, vs, rfl, _, hp, l1⟩ := S.lst ea r1
      by_cases c : -(2 ^ 62) < k ∧ k < 2 ^ 62 ∧ xs.length * k.toNat ≤ big
      · refine .inr (.inr ⟨p, k, vs, rfl, r2.int_inv, hp, by omega, by omega, ?_, fun n hn => ?_⟩)
        · rw [← l1.length]; exact big_line c.2.2
        · refine Run.newL S hn (l1.rep _) (W := W) ?_
          unfold Run at h' ⊢
          simp only [ea, if_pos c] at h'
          exact h'
      · unfold Run at h'; simp only [ea, if_neg c] at h'
end

/-! ### one after another -/
section
variable {K : PySem.W.Frag} {cl : Str → Addr} {W : WX} {ca cb cc : CE} {σ : L2.St} {H : Hp} {Q : VK}
theorem tOp_of {f : D → D → Cm D} {r : R2} (o : OpS K cl f r) (h : TEof K cl W (cBin f ca cb) σ H Q) : tOp r (TEof K cl W ca) (TEof K cl W cb) σ H Q := by
  obtain ⟨bs, s, e, S, N, h⟩ := h
  refine ⟨bs, s, e, S, N, (Run.bnd h).imp fun x b1 t1 H1 g1 S1 h1 v r1 => ⟨b1, t1, e, S1, N.mono g1, (Run.bnd h1).imp fun y b2 t2 H2 g2 S2 h2 w r2 => ?_⟩⟩
  exact o _ b2 t2 H2 x y v w Q S2 (r1.mono g2) r2 h2
theorem tUn_of {f : D → Cm D} {r : V → Hp → VK → Prop} (o : UnS K cl f r) (h : TEof K cl W (cUn f ca) σ H Q) : tUn r (TEof K cl W ca) σ H Q := by
  obtain ⟨bs, s, e, S, N, h⟩ := h
  exact ⟨bs, s, e, S, N, (Run.bnd h).imp fun x b1 t1 H1 g1 S1 h1 v r1 => o _ b1 t1 H1 x v Q S1 r1 h1⟩
theorem tCB_of {f : List D → Cm D} {r : List V → Hp → VK → Prop} {a : CA} (o : BuS K cl f r) (h : TEof K cl W (cCall f a) σ H Q) : tCB r (TAof K cl W a) σ H Q := by
  obtain ⟨bs, s, e, S, N, h⟩ := h
  exact ⟨bs, s, e, S, N, (Run.bnd h).imp fun x b1 t1 H1 g1 S1 h1 v r1 => o _ b1 t1 H1 x v Q S1 r1 h1⟩
end
section
variable {X : Cx} {cl : Str → Addr} {W : WX} {a b c : Expr} {es : List Expr} {ca cb cc : CE} {ta tb : CT} {aa : CA} {pos p : Pos}
theorem s_int {i j pos} : SE X cl W (.Constant (.int i) j pos) (cK (.int i)) := PE.imp pe_int fun _ _ _ ⟨_, _, _, S, _, h⟩ => Run.now S h _ (.int _)
theorem s_bl {i j pos} : SE X cl W (.Constant (.bool i) j pos) (cK (.bl i)) := PE.imp pe_bl fun _ _ _ ⟨_, _, _, S, _, h⟩ => Run.now S h _ (.bl _)
theorem s_str {i j pos} : SE X cl W (.Constant (.str i) j pos) (cK (.str i)) := PE.imp pe_str fun _ _ _ ⟨_, _, _, S, _, h⟩ => Run.now S h _ (.str _)
theorem s_non {j pos} : SE X cl W (.Constant .none j pos) (cK .non) := PE.imp pe_non fun _ _ _ ⟨_, _, _, S, _, h⟩ => Run.now S h _ .non
theorem s_var (i : Nat) {x : Str} {pos : Pos} (hN : X.N[i]? = some x := by rfl) (hv : Vis X.env.scope x := by first | exact Or.inl rfl | exact Or.inr (Or.inl rfl) | exact Or.inr (Or.inr rfl)) (hd : (x == ("__debug__" : Str)) = false := by decide)
    (hcd : (x == ("__classdict__" : Str)) = false := by decide) : SE X cl W (.Name x pos) (cV i) := PE.imp (pe_var hN hv hd hcd) fun σ H Q ⟨bs, s, e, S, N, h⟩ => by
  cases q : sl e i with
  | none => exact (Run.of_no h (by unfold cV; simp only [q]; rfl)).elim
  | some d =>
    obtain ⟨v, h1, r⟩ := N.at_ i d (sl_get.mp q)
    have e1 : cV i e = ret d := by unfold cV; rw [q]
    rw [e1] at h
    exact ⟨v, h1, Run.now S h v r⟩
/-- a constant of the module -/
theorem s_glob {x : Str} {d : D} {v : V} {u : Value} (hg : Gl X x) (hm : X.mg x = some u) (r : RelV v u) (hr : ∀ bs H, Rp X.K cl bs H d v) (hd : (x == ("__debug__" : Str)) = false := by decide) : SE X cl W (.Name x pos) (cK d) :=
  PE.imp (pe_glob hg hm r hd) fun _ _ _ ⟨_, _, _, S, _, h⟩ => Run.now S h _ (hr _ _)
theorem s_bin {op : Operator} {f : D → D → Cm D} (o : OpG X cl (binaryOp op) f) (ha : SE X cl W a ca) (hb : SE X cl W b cb) : SE X cl W (.BinOp a op b pos) (cBin f ca cb) := by
  obtain ⟨r, h1, h2⟩ := o
  exact PE.imp (pe_op h1 ha hb) fun σ H Q h => tOp_of h2 h
theorem us_neg {K : PySem.W.Frag} : UnS K cl dNeg (rU fun i => .int (-i)) := by
  intro W bs s H x v Q S r h
  cases x with
  | int i => exact ⟨i, r.int_inv, Run.now S h _ (.int _)⟩
  | _ => exact (show False from h).elim
theorem s_neg (ha : SE X cl W a ca) : SE X cl W (.UnaryOp .USub a pos) (cUn dNeg ca) := PE.imp (pe_un un_neg ha) fun σ H Q h => tUn_of us_neg h
theorem s_cmp {op : CmpOp} {f : D → D → Cm D} (o : OpG X cl (compareOp op) f) (ha : SE X cl W a ca) (hb : SE X cl W b cb) (hm : behindInMarks op b = false) : SE X cl W (.Compare a [op] [b] pos) (cBin f ca cb) := by
  obtain ⟨r, h1, h2⟩ := o
  exact PE.imp (pe_cmpR h1 ha hb hm) fun σ H Q h => tOp_of h2 h
theorem tTest_of {K : PySem.W.Frag} {t : TE} {σ : L2.St} {H : Hp} {Q : Bool → Hp → Prop} (i : ∀ Q, TEof K cl W ca σ H Q → t σ H Q) (h : TTof K cl W (tE ca) σ H Q) : tTest t σ H Q := by
  refine i _ ?_
  obtain ⟨bs, s, e, S, N, h⟩ := h
  refine ⟨bs, s, e, S, N, (Run.bnd h).imp fun x b1 t1 H1 g1 S1 h1 v r1 => ?_⟩
  cases x with
  | bl k => exact ⟨k, r1.bl_inv, Run.now S1 h1⟩
  | _ => exact (show False from h1).elim
theorem t_cmp {op : CmpOp} {f : D → D → Cm D} (o : OpG X cl (compareOp op) f) (ha : SE X cl W a ca) (hb : SE X cl W b cb) (hm : behindInMarks op b = false) : ST X cl W (.Compare a [op] [b] pos) (tE (cBin f ca cb)) := by
  obtain ⟨r, h1, h2⟩ := o
  exact PT.imp (pt_cmpR h1 ha hb hm) fun σ H Q h => tTest_of (fun Q h => tOp_of h2 h) h
/-- any expression that tells True or False -/
theorem t_val (ha : SE X cl W a ca) (he : ∀ whole, isTrue a X.env whole = (do let v ← whole; standAt a.pos; holding [v] (truthy v)) := by intro _; rfl) : ST X cl W a (tE ca) :=
  PT.imp (pt_val ha he) fun σ H Q h => tTest_of (fun _ h => h) h
theorem t_pw (h : SW X cl W a ta) : ST X cl W a ta := PW.pt h
theorem w_and1 (ha : ST X cl W a ta) : SW X cl W (.BoolOp .And [a] pos) ta := pw_and1 ha
theorem w_or1 (ha : ST X cl W a ta) : SW X cl W (.BoolOp .Or [a] pos) ta := pw_or1 ha
theorem w_and (ha : ST X cl W a ta) (hb : SW X cl W (.BoolOp .And (b :: es) pos) tb) : SW X cl W (.BoolOp .And (a :: b :: es) pos) (tAnd' ta tb) := PW.imp (pw_and ha hb) fun σ H Q ⟨bs, s, e, S, N, h⟩ => by
  refine ⟨bs, s, e, S, N, (Run.bnd h).imp fun x b1 t1 H1 g1 S1 h1 => ?_⟩
  cases x with
  | true => exact ⟨b1, t1, e, S1, N.mono g1, h1⟩
  | false => exact Run.now S1 (show Run _ _ _ _ _ _ (ret false) _ from h1)
theorem w_or (ha : ST X cl W a ta) (hb : SW X cl W (.BoolOp .Or (b :: es) pos) tb) : SW X cl W (.BoolOp .Or (a :: b :: es) pos) (tOr' ta tb) := PW.imp (pw_or ha hb) fun σ H Q ⟨bs, s, e, S, N, h⟩ => by
  refine ⟨bs, s, e, S, N, (Run.bnd h).imp fun x b1 t1 H1 g1 S1 h1 => ?_⟩
  cases x with
  | false => exact ⟨b1, t1, e, S1, N.mono g1, h1⟩
  | true => exact Run.now S1 (show Run _ _ _ _ _ _ (ret true) _ from h1)
theorem t_not (ha : ST X cl W a ta) : ST X cl W (.UnaryOp .Not a pos) (tNot' ta) := PT.imp (pt_not ha) fun σ H Q ⟨bs, s, e, S, N, h⟩ =>
  ⟨bs, s, e, S, N, (Run.bnd h).imp fun x b1 t1 H1 g1 S1 h1 => Run.now S1 h1⟩
theorem s_one {op} (h : SE X cl W a ca) : SE X cl W (.BoolOp op [a] pos) ca := pe_one h
theorem s_and (ha : SE X cl W a ca) (hb : SE X cl W (.BoolOp .And (b :: es) pos) cb) : SE X cl W (.BoolOp .And (a :: b :: es) pos) (cAnd ca cb) := PE.imp (pe_and ha hb) fun σ H Q ⟨bs, s, e, S, N, h⟩ => by
  refine ⟨bs, s, e, S, N, (Run.bnd h).imp fun x b1 t1 H1 g1 S1 h1 v r1 => ?_⟩
  cases x with
  | bl k =>
    refine ⟨k, r1.bl_inv, ?_⟩
    cases k with
    | true => exact ⟨b1, t1, e, S1, N.mono g1, h1⟩
    | false => exact Run.now S1 (show Run _ _ _ _ _ _ (ret (D.bl false)) _ from h1) _ (.bl _)
  | _ => exact (show False from h1).elim
theorem s_or (ha : SE X cl W a ca) (hb : SE X cl W (.BoolOp .Or (b :: es) pos) cb) : SE X cl W (.BoolOp .Or (a :: b :: es) pos) (cOr ca cb) := PE.imp (pe_or ha hb) fun σ H Q ⟨bs, s, e, S, N, h⟩ => by
  refine ⟨bs, s, e, S, N, (Run.bnd h).imp fun x b1 t1 H1 g1 S1 h1 v r1 => ?_⟩
  cases x with
  | bl k =>
    refine ⟨k, r1.bl_inv, ?_⟩
    cases k with
    | false => exact ⟨b1, t1, e, S1, N.mono g1, h1⟩
    | true => exact Run.now S1 (show Run _ _ _ _ _ _ (ret (D.bl true)) _ from h1) _ (.bl _)
  | _ => exact (show False from h1).elim
theorem s_not (ha : SE X cl W a ca) : SE X cl W (.UnaryOp .Not a pos) (cNot ca) := PE.imp (pe_not ha) fun σ H Q ⟨bs, s, e, S, N, h⟩ => by
  refine ⟨bs, s, e, S, N, (Run.bnd h).imp fun x b1 t1 H1 g1 S1 h1 v r1 => ?_⟩
  cases x with
  | bl k => exact ⟨k, r1.bl_inv, Run.now S1 (show Run _ _ _ _ _ _ (ret (D.bl (!k))) _ from h1) _ (.bl _)⟩
  | _ => exact (show False from h1).elim
theorem s_ifx (hc : ST X cl W c ta) (ha : SE X cl W a ca) (hb : SE X cl W b cb) : SE X cl W (.IfExp c a b pos) (cIf ta ca cb) := PE.imp (pe_ifExp hc ha hb) fun σ H Q ⟨bs, s, e, S, N, h⟩ => by
  refine ⟨bs, s, e, S, N, (Run.bnd h).imp fun x b1 t1 H1 g1 S1 h1 => ?_⟩
  cases x with
  | true => exact ⟨b1, t1, e, S1, N.mono g1, h1⟩
  | false => exact ⟨b1, t1, e, S1, N.mono g1, h1⟩
theorem tChain_of {K : PySem.W.Frag} {f g : D → D → Cm D} {r r' : R2} {σ : L2.St} {H : Hp} {Q : VK} (o : OpS K cl f r) (o' : OpS K cl g r') (h : TEof K cl W (cChain f g ca cb cc) σ H Q) : tChain r r' (TEof K cl W ca) (TEof K cl W cb) (TEof K cl W cc) σ H Q := by
  obtain ⟨bs, s, e, S, N, h⟩ := h
  refine ⟨bs, s, e, S, N, (Run.bnd h).imp fun x b1 t1 H1 g1 S1 h1 v r1 => ⟨b1, t1, e, S1, N.mono g1, (Run.bnd h1).imp fun y b2 t2 H2 g2 S2 h2 w r2 => ?_⟩⟩
  refine o _ b2 t2 H2 x y v w _ S2 (r1.mono g2) r2 ((Run.bnd h2).imp fun z b3 t3 H3 g3 S3 h3 u r3 => ?_)
  cases z with
  | bl k =>
    refine ⟨k, r3.bl_inv, ?_⟩
    cases k with
    | true => exact ⟨b3, t3, e, S3, ((N.mono g1).mono g2).mono g3, (Run.bnd h3).imp fun z b4 t4 H4 g4 S4 h4 u r4 => o' _ b4 t4 H4 y z w u Q S4 (r2.mono (g3.trans g4)) r4 h4⟩
    | false => exact Run.now S3 (show Run _ _ _ _ _ _ (ret (D.bl false)) _ from h3) _ (.bl _)
  | _ => exact (show False from h3).elim
theorem s_chain {op op' : CmpOp} {f g : D → D → Cm D} (o : OpG X cl (compareOp op) f) (o' : OpG X cl (compareOp op') g) (ha : SE X cl W a ca) (hb : SE X cl W b cb) (hc : SE X cl W c cc) (hm : lastMarks [op, op'] [b, c] = false := by with_unfolding_all rfl) :
    SE X cl W (.Compare a [op, op'] [b, c] pos) (cChain f g ca cb cc) := by
  obtain ⟨r, h1, h2⟩ := o
  obtain ⟨r', h1', h2'⟩ := o'
  exact PE.imp (pe_chain h1 h1' ha hb hc hm) fun σ H Q h => tChain_of h2 h2' h
theorem t_chain {op op' : CmpOp} {f g : D → D → Cm D} (o : OpG X cl (compareOp op) f) (o' : OpG X cl (compareOp op') g) (ha : SE X cl W a ca) (hb : SE X cl W b cb) (hc : SE X cl W c cc) (hm : lastMarks [op, op'] [b, c] = false := by with_unfolding_all rfl) :
    ST X cl W (.Compare a [op, op'] [b, c] pos) (tE (cChain f g ca cb cc)) := by
  obtain ⟨r, h1, h2⟩ := o
  obtain ⟨r', h1', h2'⟩ := o'
  exact PT.imp (pt_chain h1 h1' ha hb hc hm) fun σ H Q h => tTest_of (fun Q h => tChain_of h2 h2' h) h
/-! a chain of three -/
def tChain3 (r r' r'' : R2) (ta tb tc td : TE) : TE := fun σ H Q => ta σ H fun x H1 => tb σ H1 fun y H2 => r x y H2 fun z H3 => ∃ k, z = .bl k ∧
  (if k = true then tc σ H3 fun x2 H4 => r' y x2 H4 (fun z2 H5 => ∃ k2, z2 = .bl k2 ∧ (if k2 = true then td σ H5 fun x3 H6 => r'' x2 x3 H6 Q else Q (.bl false) H5)) else Q (.bl false) H3)
theorem pt_chain3 {op op' op'' : CmpOp} {r r' r'' : R2} {d : Expr} {ta tb tc td : TE} (o1 : OpR X (compareOp op) r) (o2 : OpR X (compareOp op') r') (o3 : OpR X (compareOp op'') r'') (ha : PE X a ta) (hb : PE X b tb) (hc : PE X c tc) (hd : PE X d td)
    (hm : lastMarks [op, op', op''] [b, c, d] = false := by with_unfolding_all rfl) : PT X (.Compare a [op, op', op''] [b, c, d] pos) (tTest (tChain3 r r' r'' ta tb tc td)) := by
  refine ⟨fun pins s σ H Q I h => isTrue_chain (thn (ha.run pins s σ H _ I h) fun va sa ⟨xa, Ha, Ia, ra, qa⟩ => ?_) hm⟩
  refine test_link (thn (hb.run pins sa σ Ha _ Ia qa) fun vb sb ⟨xb, Hb, Ib, rb, qb⟩ => thn (o1 pins sb σ Hb xa xb va vb _ Ib ra rb qb) fun vz sz ⟨xz, Hz, Iz, rz, k, ek, qz⟩ => ?_)
  subst ek
  cases rz
  refine wpAny_truthy_bool (Q := fun t s' => if t then _ else _) ?_
  cases k with
  | false =>
    obtain ⟨m, em, qm⟩ := qz
    cases em
    exact ite_ff ⟨Hz, Iz, qm⟩
  | true =>
    refine ite_tt (test_link (thn (hc.run pins sz σ Hz _ Iz qz) fun vc sc ⟨xc, Hc, Ic, rc, qc⟩ => thn (o2 pins sc σ Hc xb xc vb vc _ Ic rb rc qc) fun vy sy ⟨xy, Hy, Iy, ry, l, el, qy⟩ => ?_))
    subst el
    cases ry
    refine wpAny_truthy_bool (Q := fun t s' => if t then _ else _) ?_
    cases l with
    | false =>
      obtain ⟨m, em, qm⟩ := qy
      cases em
      exact ite_ff ⟨Hy, Iy, qm⟩
    | true =>
      refine ite_tt (test_last (thn (hd.run pins sy σ Hy _ Iy qy) fun vd sd ⟨xd, Hd, Id, rd, qd⟩ => thn (o3 pins sd σ Hd xc xd vc vd _ Id rc rd qd) fun vw sw ⟨xw, Hw, Iw, rw', n, en, qw⟩ => ?_))
      subst en
      cases rw'
      exact wpAny_truthy_bool (⟨Hw, Iw, qw⟩ : TP X pins σ Q n sw)
theorem tChain3_of {K : PySem.W.Frag} {f g h' : D → D → Cm D} {r r' r'' : R2} {cd : CE} {σ : L2.St} {H : Hp} {Q : VK} (o : OpS K cl f r) (o' : OpS K cl g r') (o'' : OpS K cl h' r'') (h : TEof K cl W (cChain3 f g h' ca cb cc cd) σ H Q) :
    tChain3 r r' r'' (TEof K cl W ca) (TEof K cl W cb) (TEof K cl W cc) (TEof K cl W cd) σ H Q := by
  obtain ⟨bs, s, e, S, N, h⟩ := h
  refine ⟨bs, s, e, S, N, (Run.bnd h).imp fun x b1 t1 H1 g1 S1 h1 v r1 => ⟨b1, t1, e, S1, N.mono g1, (Run.bnd h1).imp fun y b2 t2 H2 g2 S2 h2 w r2 => ?_⟩⟩
  refine o _ b2 t2 H2 x y v w _ S2 (r1.mono g2) r2 ((Run.bnd h2).imp fun z b3 t3 H3 g3 S3 h3 u r3 => ?_)
  cases z with
  | bl k =>
    refine ⟨k, r3.bl_inv, ?_⟩
    cases k with
    | false => exact Run.now S3 (show Run _ _ _ _ _ _ (ret (D.bl false)) _ from h3) _ (.bl _)
    | true =>
      have N3 := ((N.mono g1).mono g2).mono g3
      refine ⟨b3, t3, e, S3, N3, (Run.bnd h3).imp fun x2 b4 t4 H4 g4 S4 h4 u2 r4 => ?_⟩
      refine o' _ b4 t4 H4 y x2 w u2 _ S4 (r2.mono (g3.trans g4)) r4 ((Run.bnd h4).imp fun z2 b5 t5 H5 g5 S5 h5 u3 r5 => ?_)
      cases z2 with
      | bl k2 =>
        refine ⟨k2, r5.bl_inv, ?_⟩
        cases k2 with
        | false => exact Run.now S5 (show Run _ _ _ _ _ _ (ret (D.bl false)) _ from h5) _ (.bl _)
        | true => exact ⟨b5, t5, e, S5, (N3.mono g4).mono g5, (Run.bnd h5).imp fun x3 b6 t6 H6 g6 S6 h6 u4 r6 => o'' _ b6 t6 H6 x2 x3 u2 u4 Q S6 (r4.mono (g5.trans g6)) r6 h6⟩
      | _ => exact (show False from h5).elim
  | _ => exact (show False from h3).elim
theorem t_chain3 {op op' op'' : CmpOp} {d : Expr} {cd : CE} {f g h : D → D → Cm D} (o : OpG X cl (compareOp op) f) (o' : OpG X cl (compareOp op') g) (o'' : OpG X cl (compareOp op'') h) (ha : SE X cl W a ca) (hb : SE X cl W b cb) (hc : SE X cl W c cc) (hd : SE X cl W d cd) (hm : lastMarks [op, op', op''] [b, c, d] = false := by with_unfolding_all rfl) :
    ST X cl W (.Compare a [op, op', op''] [b, c, d] pos) (tE (cChain3 f g h ca cb cc cd)) := by
  obtain ⟨r, h1, h2⟩ := o
  obtain ⟨r', h1', h2'⟩ := o'
  obtain ⟨r'', h1'', h2''⟩ := o''
  exact PT.imp (pt_chain3 h1 h1' h1'' ha hb hc hd hm) fun σ H Q h => tTest_of (fun Q h => tChain3_of h2 h2' h2'' h) h
/-! arguments, displays -/
theorem a_nil : SA X cl W [] aNil := PA.imp pa_nil fun σ H Q ⟨bs, s, e, S, N, h⟩ => Run.now S h _ .nil
theorem a_cons (ha : SE X cl W a ca) (hr : SA X cl W es aa) (hs : starEach (a :: es) X.env = (false, eval a X.env) :: starEach es X.env := by rfl) : SA X cl W (a :: es) (aCons ca aa) := PA.imp (pa_cons ha hr hs) fun σ H Q ⟨bs, s, e, S, N, h⟩ =>
  ⟨bs, s, e, S, N, (Run.bnd h).imp fun x b1 t1 H1 g1 S1 h1 v r1 => ⟨b1, t1, e, S1, N.mono g1, (Run.bnd h1).imp fun xs b2 t2 H2 g2 S2 h2 vs r2 => Run.now S2 h2 _ (.cons (r1.mono g2) r2)⟩⟩
theorem s_tup {x1} (h : SA X cl W es aa) : SE X cl W (.Tuple es x1 pos) (cTup aa) := PE.imp (pe_tup h) fun σ H Q ⟨bs, s, e, S, N, h⟩ =>
  ⟨bs, s, e, S, N, (Run.bnd h).imp fun xs b1 t1 H1 g1 S1 h1 vs r1 => by
    obtain ⟨c, h1⟩ := Run.ite h1
    exact ⟨by rw [← r1.length]; exact big_line c, fun p hp => Run.newT S1 hp r1 h1⟩⟩
theorem s_lst (h : SA X cl W es aa) : SE X cl W (.List es pos) (cLst aa) := PE.imp (pe_lst h) fun σ H Q ⟨bs, s, e, S, N, h⟩ =>
  ⟨bs, s, e, S, N, (Run.bnd h).imp fun xs b1 t1 H1 g1 S1 h1 vs r1 => by
    obtain ⟨c, h1⟩ := Run.ite h1
    exact ⟨by rw [← r1.length]; exact big_line c, fun p hp => Run.newL S1 hp r1 h1⟩⟩
theorem l_lst (h : SA X cl W es aa) : SL X cl W (.List es pos) (cChk aa) := PE.imp (pe_lst h) fun σ H Q ⟨bs, s, e, S, N, h⟩ =>
  ⟨bs, s, e, S, N, (Run.bnd h).imp fun xs b1 t1 H1 g1 S1 h1 vs r1 => by
    obtain ⟨c, h1⟩ := Run.ite h1
    exact ⟨by rw [← r1.length]; exact big_line c, fun p hp => Run.now S1 h1 p vs hp r1⟩⟩
theorem tNew_of {K : PySem.W.Frag} {σ : L2.St} {H : Hp} {Q : VK} {ca : CA} (h : TEof K cl W (cNew ca) σ H Q) : TLof K cl W ca σ H Q := by
  obtain ⟨bs, s, e, S, N, h⟩ := h
  exact ⟨bs, s, e, S, N, (Run.bnd h).imp fun xs b1 t1 H1 g1 S1 h1 p vs hp r1 => Run.newL S1 hp r1 h1⟩
theorem s_new {ca : CA} (h : SL X cl W a ca) : SE X cl W a (cNew ca) := PE.imp h fun σ H Q h => tNew_of h
/-! == of scalars, is None, in -/
theorem eqS_ok {K : PySem.W.Frag} {bs : List Addr} {H : Hp} {x y : D} {v w : V} {b : Bool} (h : eqS x y = some b) (r1 : Rp K cl bs H x v) (r2 : Rp K cl bs H y w) : scal v w = true ∧ decide (v = w) = b := by
  cases x <;> cases y <;> first | exact (Option.noConfusion h) | skip
  all_goals (cases r1; cases r2; cases h <;> first | exact ⟨rfl, rfl⟩ | exact ⟨rfl, by simp⟩)
mutual
theorem dp_of {K : PySem.W.Frag} {bs : List Addr} {s : Sto} {H : Hp} (S : StR K cl bs s H) : ∀ (n : Nat) (x : D) (v : V) (d : PyData), Rp K cl bs H x v → datD s n x = some d → Dp K H v d
  | 0, _, _, _, _, h => by cases h
  | _ + 1, .non, _, _, r, h => by cases h; cases r; exact .non
  | _ + 1, .bl b, _, _, r, h => by cases h; cases r; exact .bl b
  | _ + 1, .int b, _, _, r, h => by cases h; cases r; exact .int b
  | _ + 1, .str b, _, _, r, h => by cases h; cases r; exact .str b
  | n + 1, .tup ds, _, d, r, h => by
    have h : (datL (datD s n) ds).map .tuple = some d := h
    cases e : datL (datD s n) ds with
    | none => rw [e] at h; cases h
    | some xs =>
      rw [e] at h
      cases h
      cases r with
      | tup h1 h2 => exact .tup (sqT_mono (fun a o e => (hid_some e).2) h1) (dpL_of S n ds _ xs h2 e)
  | n + 1, .lst ds, _, d, r, h => by
    have h : (datL (datD s n) ds).map .list = some d := h
    cases e : datL (datD s n) ds with
    | none => rw [e] at h; cases h
    | some xs =>
      rw [e] at h
      cases h
      cases r with
      | lst h1 h2 => exact .lst (fzL_mono (fun a o e => (hid_some e).2) h1).sq (dpL_of S n ds _ xs h2 e)
  | n + 1, .box j, v, d, r, h => by
    have h : (match lAt s j with | some ds => (datL (datD s n) ds).map .list | none => none) = some d := h
    cases q : lAt s j with
    | none => rw [q] at h; cases h
    | some ds =>
      rw [q] at h
      have h : (datL (datD s n) ds).map .list = some d := h
      cases e : datL (datD s n) ds with
      | none => rw [e] at h; cases h
      | some xs =>
        rw [e] at h
        cases h
        obtain ⟨p, vs, rfl, _, e2, e3⟩ := S.lst q r
        exact .lst (SqL.of e2) (dpL_of S n ds vs xs e3 e)
theorem dpL_of {K : PySem.W.Frag} {bs : List Addr} {s : Sto} {H : Hp} (S : StR K cl bs s H) : ∀ (n : Nat) (xs : List D) (vs : List V) (ds : List PyData), RpL K cl bs H xs vs → datL (datD s n) xs = some ds → DpAll K H vs ds
  | n, [], _, _, r, h => by cases h; cases r; exact .nil
  | n, x :: xs, _, ds, r, h => by
    have h : (match datD s n x, datL (datD s n) xs with | some y, some ys => some (y :: ys) | _, _ => none) = some ds := h
    cases e1 : datD s n x with
    | none => rw [e1] at h; cases h
    | some y =>
      cases e2 : datL (datD s n) xs with
      | none => rw [e1, e2] at h; cases h
      | some ys =>
        rw [e1, e2] at h
        cases h
        cases r with
        | cons r1 r2 => exact .cons (dp_of S n x _ y r1 e1) (dpL_of S n xs _ ys r2 e2)
end
theorem eqX_ok {K : PySem.W.Frag} {bs : List Addr} {s : Sto} {H : Hp} {x y : D} {v w : V} {b : Bool} (S : StR K cl bs s H) (h : eqX s x y = some b) (r1 : Rp K cl bs H x v) (r2 : Rp K cl bs H y w) :
    (scal v w = true ∧ decide (v = w) = b) ∨ ∃ d e, Dp K H v d ∧ Dp K H w e ∧ SeqAt.shaped d = true ∧ SeqAt.shaped e = true ∧ PyData.eqv d e = b := by
  unfold eqX at h
  cases e : eqS x y with
  | some c => rw [e] at h; cases h; exact .inl (eqS_ok e r1 r2)
  | none =>
    rw [e] at h
    simp only at h
    cases e1 : datD s 9 x with
    | none => rw [e1] at h; cases h
    | some d =>
      cases e2 : datD s 9 y with
      | none => rw [e1, e2] at h; cases h
      | some f =>
        rw [e1, e2] at h
        simp only at h
        by_cases c : SeqAt.shaped d = true ∧ SeqAt.shaped f = true
        · rw [if_pos c] at h
          cases h
          exact .inr ⟨d, f, dp_of S 9 x v d r1 e1, dp_of S 9 y w f r2 e2, c.1, c.2, rfl⟩
        · rw [if_neg c] at h; cases h
theorem og_eq (hu : X.A.units + 64 < cLine) : OpG X cl (compareOp .Eq) dEq := by
  refine ⟨_, op_eq.or (op_eqD hu), ?_⟩
  intro W bs s H x y v w Q S r1 r2 h
  cases e : eqX s x y with
  | none => exact (Run.of_no h (by unfold dEq; simp only [e])).elim
  | some b =>
    have q := Run.of_ok h (a := .bl b) (t := s) (by unfold dEq; simp only [e]) bs H (Gr.refl _ _) S _ (.bl b)
    rcases eqX_ok S e r1 r2 with ⟨h1, h2⟩ | ⟨d, f, h1, h2, h3, h4, h5⟩
    · exact .inl ⟨h1, by rw [h2]; exact q⟩
    · exact .inr ⟨d, f, h1, h2, h3, h4, by rw [h5]; exact q⟩
theorem og_ne (hu : X.A.units + 64 < cLine) : OpG X cl (compareOp .NotEq) dNe := by
  refine ⟨_, op_ne.or (op_neD hu), ?_⟩
  intro W bs s H x y v w Q S r1 r2 h
  cases e : eqX s x y with
  | none => exact (Run.of_no h (by unfold dNe; simp only [e])).elim
  | some b =>
    have q := Run.of_ok h (a := .bl (!b)) (t := s) (by unfold dNe; simp only [e]) bs H (Gr.refl _ _) S _ (.bl _)
    rcases eqX_ok S e r1 r2 with ⟨h1, h2⟩ | ⟨d, f, h1, h2, h3, h4, h5⟩
    · exact .inl ⟨h1, by rw [h2]; exact q⟩
    · exact .inr ⟨d, f, h1, h2, h3, h4, by rw [h5]; exact q⟩
theorem og_isB : OpG X cl (compareOp .Is) dIsB := by
  refine ⟨_, op_isBl, ?_⟩
  intro W bs s H x y v w Q S r1 r2 h
  unfold dIsB at h
  split at h
  · exact ⟨_, _, r1.bl_inv, r2.bl_inv, Run.now S h _ (.bl _)⟩
  · exact h.elim
theorem og_notB : OpG X cl (compareOp .IsNot) dNotB := by
  refine ⟨_, op_notBl, ?_⟩
  intro W bs s H x y v w Q S r1 r2 h
  unfold dNotB at h
  split at h
  · exact ⟨_, _, r1.bl_inv, r2.bl_inv, Run.now S h _ (.bl _)⟩
  · exact h.elim
theorem s_bits {apos : Pos} (ha : SE X cl W a ca) (hbase : attributeBase a "bit_length" X.env (eval a X.env) = eval a X.env := by rfl) (hline : (apos.endLine == pos.line) = true := by rfl) : SE X cl W (.Call (.Attribute a "bit_length" apos) [] [] pos) (cUn dBits ca) :=
  PE.imp (pe_bits ha hbase hline) fun σ H Q ⟨bs, s, e, S, N, h⟩ => ⟨bs, s, e, S, N, (Run.bnd h).imp fun x b1 t1 H1 g1 S1 h1 v r1 => by
    cases x with
    | int i => exact ⟨i, r1.int_inv, Run.now S1 h1 _ (.int _)⟩
    | _ => exact (show False from h1).elim⟩
theorem isNon_ok {K : PySem.W.Frag} {bs : List Addr} {H : Hp} {x : D} {v : V} (r : Rp K cl bs H x v) : decide (v = .non) = isNon x := by cases r <;> rfl
theorem tIsN_of {K : PySem.W.Frag} {σ : L2.St} {H : Hp} {Q : VK} (h : TEof K cl W (cUn dIsN ca) σ H Q) : tIsN (TEof K cl W ca) σ H Q := by
  obtain ⟨bs, s, e, S, N, h⟩ := h
  exact ⟨bs, s, e, S, N, (Run.bnd h).imp fun x b1 t1 H1 g1 S1 h1 v r1 => by show Q (V.bl (decide (v = V.non))) H1; rw [isNon_ok r1]; exact Run.now S1 h1 _ (.bl _)⟩
theorem tNotN_of {K : PySem.W.Frag} {σ : L2.St} {H : Hp} {Q : VK} (h : TEof K cl W (cUn dNotN ca) σ H Q) : tNotN (TEof K cl W ca) σ H Q := by
  obtain ⟨bs, s, e, S, N, h⟩ := h
  exact ⟨bs, s, e, S, N, (Run.bnd h).imp fun x b1 t1 H1 g1 S1 h1 v r1 => by show Q (V.bl (!decide (v = V.non))) H1; rw [isNon_ok r1]; exact Run.now S1 h1 _ (.bl _)⟩
theorem s_isN {j p1} (ha : SE X cl W a ca) : SE X cl W (.Compare a [.Is] [.Constant .none j p1] pos) (cUn dIsN ca) := PE.imp (pe_cmp (pc_isN ha)) fun σ H Q h => tIsN_of h
theorem s_notN {j p1} (ha : SE X cl W a ca) : SE X cl W (.Compare a [.IsNot] [.Constant .none j p1] pos) (cUn dNotN ca) := PE.imp (pe_cmp (pc_notN ha)) fun σ H Q h => tNotN_of h
theorem t_isN {j p1} (ha : SE X cl W a ca) : ST X cl W (.Compare a [.Is] [.Constant .none j p1] pos) (tE (cUn dIsN ca)) := PT.imp (pt_cmp (pc_isN ha)) fun σ H Q h => tTest_of (fun Q h => tIsN_of h) h
theorem t_notN {j p1} (ha : SE X cl W a ca) : ST X cl W (.Compare a [.IsNot] [.Constant .none j p1] pos) (tE (cUn dNotN ca)) := PT.imp (pt_cmp (pc_notN ha)) fun σ H Q h => tTest_of (fun Q h => tNotN_of h) h
theorem flat_ok {K : PySem.W.Frag} {bs : List Addr} {H : Hp} {x : D} {v : V} (h : flatD x = true) (r : Rp K cl bs H x v) : flatV v = true := by
  cases r <;> first | rfl | exact (Bool.noConfusion h)
theorem eqV_ok {K : PySem.W.Frag} {bs : List Addr} {H : Hp} {x y : D} {v w : V} (h : flatD x = true) (h' : flatD y = true) (r : Rp K cl bs H x v) (r' : Rp K cl bs H y w) : eqV v w = eqD x y := by
  cases r <;> first | exact (Bool.noConfusion h) | skip
  all_goals (cases r' <;> first | rfl | exact (Bool.noConfusion h'))
theorem in_ok {K : PySem.W.Frag} {bs : List Addr} {H : Hp} {x : D} {v : V} (hx : flatD x = true) (r : Rp K cl bs H x v) : ∀ {ds : List D} {vs : List V}, ds.all flatD = true → RpL K cl bs H ds vs → vs.all flatV = true ∧ inV v vs = inD x ds
  | [], _, _, .nil => ⟨rfl, rfl⟩
  | d :: ds, _, h, .cons h1 h2 => by
    rw [List.all_cons, Bool.and_eq_true] at h
    obtain ⟨i1, i2⟩ := in_ok hx r h.2 h2
    refine ⟨by rw [List.all_cons, flat_ok h.1 h1, i1]; rfl, ?_⟩
    unfold inV inD at *
    rw [List.any_cons, List.any_cons, i2, eqV_ok h.1 hx h1 r]
theorem ops_in {K : PySem.W.Frag} {neg : Bool} : OpS K cl (dIn neg) (rIn K neg) := by
  intro W bs s H x y v w Q S r1 r2 h
  cases e : itemsOf s y with
  | none => exact (Run.of_no h (by unfold dIn; simp only [e])).elim
  | some ys =>
    by_cases c : flatD x = true ∧ ys.all flatD = true
    · obtain ⟨p, vs, e1, e2, e3⟩ := S.items e r2
      obtain ⟨f1, f2⟩ := in_ok c.1 r1 c.2 e3
      refine ⟨p, vs, e1, e2, flat_ok c.1 r1, f1, ?_⟩
      rw [f2]
      exact Run.of_ok h (by unfold dIn; simp only [e]; rw [if_pos c]) bs H (Gr.refl _ _) S _ (.bl _)
    · exact (Run.of_no h (by unfold dIn; simp only [e]; rw [if_neg c])).elim
theorem og_in : OpG X cl (compareOp .In) (dIn false) := ⟨_, op_in_seq, ops_in⟩
theorem og_nin : OpG X cl (compareOp .NotIn) (dIn true) := ⟨_, op_notIn_seq, ops_in⟩
theorem tInA_of {K : PySem.W.Frag} {neg : Bool} {ca : CA} {σ : L2.St} {H : Hp} {Q : VK} (h : TEof K cl W (cInA neg cb ca) σ H Q) : tOp (rIn K neg) (TEof K cl W cb) (TLof K cl W ca) σ H Q := by
  obtain ⟨bs, s, e, S, N, h⟩ := h
  refine ⟨bs, s, e, S, N, (Run.bnd h).imp fun x b1 t1 H1 g1 S1 h1 v r1 => ⟨b1, t1, e, S1, N.mono g1, (Run.bnd h1).imp fun ys b2 t2 H2 g2 S2 h2 p vs hp r2 => ?_⟩⟩
  obtain ⟨c, h2⟩ := Run.ite h2
  obtain ⟨f1, f2⟩ := in_ok c.1 (r1.mono g2) c.2 r2
  refine ⟨p, vs, rfl, .inl (SqL.of upd_same), flat_ok c.1 (r1.mono g2), f1, ?_⟩
  rw [f2]
  exact Run.of_ret h2 b2 _ (gr_new hp) (S2.new hp) _ (.bl _)
theorem s_inA {ca : CA} (hb : SE X cl W b cb) (ha : SL X cl W a ca) (hm : behindInMarks .In a = false) : SE X cl W (.Compare b [.In] [a] pos) (cInA false cb ca) := PE.imp (pe_cmpR op_in_seq hb ha hm) fun σ H Q h => tInA_of h
theorem s_ninA {ca : CA} (hb : SE X cl W b cb) (ha : SL X cl W a ca) (hm : behindInMarks .NotIn a = false) : SE X cl W (.Compare b [.NotIn] [a] pos) (cInA true cb ca) := PE.imp (pe_cmpR op_notIn_seq hb ha hm) fun σ H Q h => tInA_of h
theorem t_inA {ca : CA} (hb : SE X cl W b cb) (ha : SL X cl W a ca) (hm : behindInMarks .In a = false) : ST X cl W (.Compare b [.In] [a] pos) (tE (cInA false cb ca)) := PT.imp (pt_cmpR op_in_seq hb ha hm) fun σ H Q h => tTest_of (fun Q h => tInA_of h) h
theorem t_ninA {ca : CA} (hb : SE X cl W b cb) (ha : SL X cl W a ca) (hm : behindInMarks .NotIn a = false) : ST X cl W (.Compare b [.NotIn] [a] pos) (tE (cInA true cb ca)) := PT.imp (pt_cmpR op_notIn_seq hb ha hm) fun σ H Q h => tTest_of (fun Q h => tInA_of h) h
/-! ### rows: lists, tuples, texts -/
theorem chars_ok {K : PySem.W.Frag} {bs : List Addr} {H : Hp} (z : Str) : RpL K cl bs H (chars z) (z.cps.toList.map fun c => V.str ⟨#[c]⟩) := by
  unfold chars
  generalize z.cps.toList = l
  induction l with
  | nil => exact .nil
  | cons c l ih => exact .cons (.str _) ih
theorem str_len {z : Str} (h : z.length ≤ big) : z.length ≤ sizeLine := big_line h
/-- what stands for a row -/
theorem StR.row {K : PySem.W.Frag} {bs : List Addr} {s : Sto} {H : Hp} (S : StR K cl bs s H) {x : D} {ds : List D} (h : rowOf s x = some ds) {v : V} (r : Rp K cl bs H x v) :
    (∃ p vs, v = .ref p ∧ (SqL K H p vs ∨ SqT K H p vs) ∧ RpL K cl bs H ds vs) ∨ ∃ z, x = .str z ∧ v = .str z ∧ z.length ≤ big ∧ ds = chars z := by
  cases x with
  | str z =>
    unfold rowOf at h
    by_cases c : z.length ≤ big
    · simp only [if_pos c] at h
      cases h
      exact .inr ⟨z, rfl, r.str_inv, c, rfl⟩
    · simp only [if_neg c] at h
      cases h
  | _ => exact .inl (S.items (by simpa [rowOf] using h) r)
/-! subscripts, slices -/
theorem atI_ok {K : PySem.W.Frag} {bs : List Addr} {H : Hp} {ds : List D} {vs : List V} {i : Int} {d : D} (r : RpL K cl bs H ds vs) (h : atI ds i = some d) : ∃ v, atI vs i = some v ∧ Rp K cl bs H d v := by
  unfold atI at *
  rw [← r.length]
  cases e : ixN ds.length i with
  | none => rw [e] at h; cases h
  | some j =>
    rw [e] at h
    obtain ⟨v, h1, h2⟩ := r.get (show ds[j]? = some d from h)
    exact ⟨v, h1, h2⟩
theorem ops_ix {K : PySem.W.Frag} : OpS K cl dIx (rIx K) := by
  intro W bs s H x y v w Q S r1 r2 h
  cases e : rowOf s x with
  | none => exact (Run.of_no h (by unfold dIx; simp only [e])).elim
  | some xs =>
    cases y with
    | int i =>
      cases e2 : atI xs i with
      | none => exact (Run.of_no h (by unfold dIx; simp only [e, e2])).elim
      | some d =>
        have k := Run.of_ok h (a := d) (t := s) (by unfold dIx; simp only [e, e2]) bs H (Gr.refl _ _) S
        rcases S.row e r1 with ⟨p, vs, e3, e4, e5⟩ | ⟨z, rfl, e3, e4, rfl⟩
        · obtain ⟨u, h1, h2⟩ := atI_ok e5 e2
          have q := k u h2
          rcases e4 with e4 | e4
          · exact .inl ⟨p, vs, i, u, e3, r2.int_inv, e4, h1, q⟩
          · exact .inr (.inl ⟨p, vs, i, u, e3, r2.int_inv, e4, h1, q⟩)
        · have e5 : ∃ c, atI z.cps.toList i = some c ∧ d = .str ⟨#[c]⟩ := by
            unfold atI at e2 ⊢
            have hl : (chars z).length = z.cps.toList.length := by simp [chars]
            rw [hl] at e2
            cases e6 : ixN z.cps.toList.length i with
            | none => rw [e6] at e2; cases e2
            | some j =>
              rw [e6] at e2
              have e2 : (chars z)[j]? = some d := e2
              unfold chars at e2
              rw [List.getElem?_map] at e2
              cases e7 : z.cps.toList[j]? with
              | none => rw [e7] at e2; cases e2
              | some c => rw [e7] at e2; cases e2; exact ⟨c, e7, rfl⟩
          obtain ⟨c, e5, rfl⟩ := e5
          exact .inr (.inr ⟨z, i, c, e3, r2.int_inv, str_len e4, e5, k _ (.str _)⟩)
    | _ => exact (Run.of_no h (by unfold dIx; simp only [e])).elim
theorem s_ix (ha : SE X cl W a ca) (hb : SE X cl W b cb) (hs : PlainIx b := by intro _ _; rfl) : SE X cl W (.Subscript a b pos) (cBin dIx ca cb) := PE.imp (pe_ix ix_seq ha hb hs) fun σ H Q h => tOp_of ops_ix h
/-- an item of a list that nobody holds on to -/
theorem s_pick {ca : CA} (ha : SL X cl W a ca) (hb : SE X cl W b cb) (hs : PlainIx b := by intro _ _; rfl) : SE X cl W (.Subscript a b pos) (cPick ca cb) := PE.imp (pe_ix ix_seq ha hb hs) fun σ H Q ⟨bs, s, e, S, N, h⟩ => by
  refine ⟨bs, s, e, S, N, (Run.bnd h).imp fun xs b1 t1 H1 g1 S1 h1 p vs hp r1 => ?_⟩
  have g2 : Gr b1 H1 b1 (upd H1 p (.lst vs)) := gr_new hp
  have S2 : StR X.K cl b1 t1 (upd H1 p (.lst vs)) := S1.new hp
  refine ⟨b1, t1, e, S2, (N.mono g1).mono g2, ((Run.bnd h1).up g2).imp fun y b3 t3 H3 g3 S3 h3 w r3 => ?_⟩
  obtain ⟨k1, k2⟩ := g3.keep p _ upd_same (S1.fresh hp)
  have r4 := (r1.mono g2).mono g3
  cases y with
  | int i =>
    cases e2 : atI xs i with
    | none => exact (Run.of_no h3 (by simp only [pickD, e2]; rfl)).elim
    | some d =>
      obtain ⟨u, q1, q2⟩ := atI_ok r4 e2
      have q := Run.of_ok h3 (a := d) (t := t3) (by simp only [pickD, e2]; rfl) b3 H3 (Gr.refl _ _) S3 u q2
      exact .inl ⟨p, vs, i, u, rfl, r3.int_inv, SqL.of k1, q1, q⟩
  | _ => exact (show False from h3).elim
theorem o_none : SO X cl W none oNone := PO.imp po_none fun σ H Q ⟨bs, s, e, S, N, h⟩ => Run.now S h
theorem o_some (ha : SE X cl W a ca) : SO X cl W (some a) (oSome ca) := PO.imp (po_some ha) fun σ H Q ⟨bs, s, e, S, N, h⟩ =>
  ⟨bs, s, e, S, N, (Run.bnd h).imp fun x b1 t1 H1 g1 S1 h1 v r1 => by
    cases x with
    | int i => exact ⟨i, r1.int_inv, Run.now S1 h1⟩
    | _ => exact (show False from h1).elim⟩
theorem cut_ok {K : PySem.W.Frag} {bs : List Addr} {H : Hp} {ds : List D} {vs : List V} (r : RpL K cl bs H ds vs) (lo hi : Option Int) : RpL K cl bs H (cutD ds lo hi) (cutV vs lo hi) := by
  unfold cutD cutV
  rw [← r.length]
  exact (r.drop _).take _
theorem s_sl {lo hi : Option Expr} {cl' ch : CO} {p2 : Pos} (ha : SE X cl W a ca) (hl : SO X cl W lo cl') (hh : SO X cl W hi ch) : SE X cl W (.Subscript a (.Slice lo hi none p2) pos) (cSl ca cl' ch) := by
  refine PE.imp (pe_slice (sl_list.or sl_tupA) ha hl hh) fun σ H Q ⟨bs, s, e, S, N, h⟩ => ?_
  refine ⟨bs, s, e, S, N, (Run.bnd h).imp fun x b1 t1 H1 g1 S1 h1 v r1 => ⟨b1, t1, e, S1, N.mono g1, (Run.bnd h1).imp fun l b2 t2 H2 g2 S2 h2 => ⟨b2, t2, e, S2, (N.mono g1).mono g2, (Run.bnd h2).imp fun u b3 t3 H3 g3 S3 h3 => ?_⟩⟩⟩
  have r3 := r1.mono (g2.trans g3)
  cases x with
  | tup xs =>
    cases r3 with
    | @tup _ p vs q1 q2 =>
      refine .inr ⟨p, vs, rfl, sqT_mono (fun a o e => (hid_some e).2) q1, fun c => ?_, fun _ n hn => Run.newT S3 hn (cut_ok q2 l u) h3⟩
      have e1 : cutD xs l u = xs := by
        unfold cutD
        rw [q2.length, c.1, c.2]
        simp only [List.drop_zero, Nat.sub_zero]
        rw [← q2.length]
        exact List.take_length
      have e2 : dSl (.tup xs) l u = ret (D.tup xs) := by simp only [dSl, e1]
      rw [e2] at h3
      exact Run.now S3 h3 _ (.tup q1 q2)
  | lst xs =>
    cases r3 with
    | @lst _ p vs q1 q2 => exact .inl ⟨p, vs, rfl, (fzL_mono (fun a o e => (hid_some e).2) q1).sq, fun n hn => Run.newL S3 hn (cut_ok q2 l u) h3⟩
  | box j =>
    cases e1 : lAt t3 j with
    | none => exact (Run.of_no h3 (by simp only [dSl, e1])).elim
    | some xs =>
      obtain ⟨p, vs, e2, _, e3, e4⟩ := S3.lst e1 r3
      refine .inl ⟨p, vs, e2, SqL.of e3, fun n hn => Run.newL S3 hn (cut_ok e4 l u) (W := fun u dx H' => W u dx σ H') ?_⟩
      unfold Run at h3 ⊢
      simp only [dSl, e1] at h3
      exact h3
  | _ => exact (show False from h3).elim
end
end G

set_option Elab.async false
set_option linter.all false
set_option maxRecDepth 100000
set_option maxHeartbeats 4000000
/-! G, soundness: built-ins, calls, loops, statements, defs. -/
namespace G
open PySem L2 PySem.Spec PyProof.Rows

section
variable {X : Cx} {cl : Str → Addr} {W : WX} {a b c e0 : Expr} {es : List Expr} {ca cb cc : CE} {ta tb : CT} {aa : CA} {pos p : Pos} {x : Str}
/-! ### built-ins by name -/
theorem s_bu {id : String} {f : List D → Cm D} {r : List V → Hp → VK → Prop} (hc : CallR X (.builtin id) r) (hf : BuS X.K cl f r) (hg : Gl X x) (hm : X.mg x = none) (hv : bootBuiltins x = some (.builtin id)) (ha : SA X cl W (e0 :: es) aa) (hn : x ≠ "__name__" := by decide) (hdb : (x == ("__debug__" : Str)) = false := by decide)
    (he : starEach (e0 :: es) X.env = (false, eval e0 X.env) :: starEach es X.env := by rfl) (hpl : (backTo pos (starEach es X.env)).any (·.1) = false := by rfl) : SE X cl W (.Call (.Name x p) (e0 :: es) [] pos) (cCall f aa) :=
  PE.imp (pe_callB hc hg hm hv ha hn hdb he hpl) fun σ H Q h => tCB_of hf h
theorem s_ty {T : String} {f : List D → Cm D} {r : List V → Hp → VK → Prop} (hc : CallR X (.type T) r) (hf : BuS X.K cl f r) (hg : Gl X x) (hm : X.mg x = none) (hv : bootBuiltins x = some (.type T)) (ha : SA X cl W (e0 :: es) aa) (hn : x ≠ "__name__" := by decide) (hdb : (x == ("__debug__" : Str)) = false := by decide)
    (he : starEach (e0 :: es) X.env = (false, eval e0 X.env) :: starEach es X.env := by rfl) (hpl : (backTo pos (starEach es X.env)).any (·.1) = false := by rfl) : SE X cl W (.Call (.Name x p) (e0 :: es) [] pos) (cCall f aa) :=
  PE.imp (pe_callTy hc hg hm hv ha hn hdb he hpl) fun σ H Q h => tCB_of hf h
section
variable {K : PySem.W.Frag}
theorem RpL.one {bs : List Addr} {H : Hp} {d : D} {vs : List V} (h : RpL K cl bs H [d] vs) : ∃ v, vs = [v] ∧ Rp K cl bs H d v := by
  cases h with
  | cons h r => cases r; exact ⟨_, rfl, h⟩
theorem RpL.two {bs : List Addr} {H : Hp} {d d' : D} {vs : List V} (h : RpL K cl bs H [d, d'] vs) : ∃ v w, vs = [v, w] ∧ Rp K cl bs H d v ∧ Rp K cl bs H d' w := by
  cases h with
  | cons h r =>
    obtain ⟨w, rfl, h2⟩ := r.one
    exact ⟨_, _, rfl, h, h2⟩
theorem bu_len : BuS K cl bLen (fun xs H Q => (∃ p ys, xs = [.ref p] ∧ (SqL K H p ys ∨ SqT K H p ys) ∧ Q (.int ys.length) H) ∨ ∃ z, xs = [.str z] ∧ z.length ≤ sizeLine ∧ Q (.int z.length) H) := by
  intro W bs s H ds vs Q S r h
  match ds, r, h with
  | [], r, h => exact (show False from h).elim
  | _ :: _ :: _, r, h => exact (show False from h).elim
  | [x], r, h =>
    obtain ⟨v, rfl, r1⟩ := r.one
    cases e : itemsOf s x with
    | some xs =>
      obtain ⟨p, us, rfl, e2, e3⟩ := S.items e r1
      refine .inl ⟨p, us, rfl, e2, ?_⟩
      rw [← e3.length]
      exact Run.of_ok h (by unfold bLen; simp only [e]) bs H (Gr.refl _ _) S _ (.int _)
    | none =>
      cases x with
      | str z =>
        by_cases c : z.length ≤ big
        · exact .inr ⟨z, by rw [r1.str_inv], big_line c, Run.of_ok h (by unfold bLen; simp only [e]; rw [if_pos c]) bs H (Gr.refl _ _) S _ (.int _)⟩
        · exact (Run.of_no h (by unfold bLen; simp only [e]; rw [if_neg c])).elim
      | _ => exact (Run.of_no h (by unfold bLen; simp only [e])).elim
theorem bu_ii {f : List D → Cm D} {g : Int → Int → Int} (hf : ∀ i j, f [.int i, .int j] = ret (.int (g i j))) (hn : ∀ ds, (∀ i j, ¬ ds = [.int i, .int j]) → f ds = noC) : BuS K cl f (fun xs H Q => ∃ i j, xs = [.int i, .int j] ∧ Q (.int (g i j)) H) := by
  intro W bs s H ds vs Q S r h
  by_cases c : ∃ i j, ds = [.int i, .int j]
  · obtain ⟨i, j, rfl⟩ := c
    obtain ⟨v, w, rfl, r1, r2⟩ := r.two
    rw [hf] at h
    exact ⟨i, j, by rw [r1.int_inv, r2.int_inv], Run.now S h _ (.int _)⟩
  · rw [hn ds fun i j q => c ⟨i, j, q⟩] at h
    exact h.elim
theorem bu_max : BuS K cl bMax (fun xs H Q => ∃ i j, xs = [.int i, .int j] ∧ Q (.int (if j > i then j else i)) H) := bu_ii (fun _ _ => rfl) fun ds h => by
  unfold bMax
  split
  · exact absurd rfl (h _ _)
  · rfl
theorem bu_min : BuS K cl bMin (fun xs H Q => ∃ i j, xs = [.int i, .int j] ∧ Q (.int (if j < i then j else i)) H) := bu_ii (fun _ _ => rfl) fun ds h => by
  unfold bMin
  split
  · exact absurd rfl (h _ _)
  · rfl
theorem bu_abs : BuS K cl bAbs (fun xs H Q => ∃ i, xs = [.int i] ∧ Q (.int (if i < 0 then -i else i)) H) := by
  intro W bs s H ds vs Q S r h
  unfold bAbs at h
  split at h
  · obtain ⟨v, rfl, r1⟩ := r.one
    exact ⟨_, by rw [r1.int_inv], Run.now S h _ (.int _)⟩
  · exact h.elim
theorem bu_int : BuS K cl bInt (fun xs H Q => (∃ i, xs = [.int i] ∧ Q (.int i) H) ∨ ∃ k, xs = [.bl k] ∧ Q (.int (if k then 1 else 0)) H) := by
  intro W bs s H ds vs Q S r h
  unfold bInt at h
  split at h
  · obtain ⟨v, rfl, r1⟩ := r.one
    exact .inl ⟨_, by rw [r1.int_inv], Run.now S h _ (.int _)⟩
  · obtain ⟨v, rfl, r1⟩ := r.one
    exact .inr ⟨_, by rw [r1.bl_inv], Run.now S h _ (.int _)⟩
  · exact h.elim
theorem bu_list : BuS K cl bList (fun xs H Q => ∃ p ys, xs = [.ref p] ∧ (SqL K H p ys ∨ SqT K H p ys) ∧ ∀ l, H l = none → Q (.ref l) (upd H l (.lst ys))) := by
  intro W bs s H ds vs Q S r h
  match ds, r, h with
  | [], r, h => exact (show False from h).elim
  | _ :: _ :: _, r, h => exact (show False from h).elim
  | [x], r, h =>
    obtain ⟨v, rfl, r1⟩ := r.one
    cases e : itemsOf s x with
    | some xs =>
      obtain ⟨p, us, rfl, e2, e3⟩ := S.items e r1
      refine ⟨p, us, rfl, e2, fun l hl => Run.newL S hl e3 (W := W) ?_⟩
      unfold Run at h ⊢
      simp only [bList, e] at h
      exact h
    | none => exact (Run.of_no h (by unfold bList; simp only [e])).elim
theorem bu_tuple : BuS K cl bTuple (fun xs H Q => ∃ p ys, xs = [.ref p] ∧ ((SqL K H p ys ∧ ∀ l, H l = none → Q (.ref l) (upd H l (.tup ys))) ∨ (SqT K H p ys ∧ Q (.ref p) H))) := by
  intro W bs s H ds vs Q S r h
  match ds, r, h with
  | [], r, h => exact (show False from h).elim
  | _ :: _ :: _, r, h => exact (show False from h).elim
  | [x], r, h =>
    obtain ⟨v, rfl, r1⟩ := r.one
    cases e : itemsOf s x with
    | some xs =>
      have h2 : Run K cl W bs s H (ret (D.tup xs)) (fun d bs' _ H' => ∀ v, Rp K cl bs' H' d v → Q v H') := by
        unfold Run at h ⊢
        simp only [bTuple, e] at h
        exact h
      cases x with
      | tup ys =>
        cases e
        cases r1 with
        | @tup _ p us q1 q2 => exact ⟨p, us, rfl, .inr ⟨sqT_mono (fun a o e => (hid_some e).2) q1, Run.now S h2 _ (.tup q1 q2)⟩⟩
      | lst ys =>
        cases e
        cases r1 with
        | @lst _ p us q1 q2 => exact ⟨p, us, rfl, .inl ⟨(fzL_mono (fun a o e => (hid_some e).2) q1).sq, fun l hl => Run.newT S hl q2 h2⟩⟩
      | box j =>
        obtain ⟨p, us, e1, _, e2, e3⟩ := S.lst (show lAt s j = some xs from e) r1
        exact ⟨p, us, by rw [e1], .inl ⟨SqL.of e2, fun l hl => Run.newT S hl e3 h2⟩⟩
      | _ => cases e
    | none => exact (Run.of_no h (by unfold bTuple; simp only [e])).elim
/-- True or False in a row -/
theorem bls_ok {bs : List Addr} {H : Hp} : ∀ {ds : List D} {vs : List V}, RpL K cl bs H ds vs → ds.all isBl = true → vs = (ds.map blOf).map V.bl
  | [], _, .nil, _ => rfl
  | d :: ds, _, .cons h r, q => by
    rw [List.all_cons, Bool.and_eq_true] at q
    have ih := bls_ok r q.2
    cases d with
    | bl b => rw [ih, h.bl_inv]; rfl
    | _ => exact (Bool.noConfusion q.1)
theorem all_map : ∀ ds : List D, (ds.map blOf).all id = ds.all blOf
  | [] => rfl
  | d :: ds => by
    rw [List.map_cons, List.all_cons, List.all_cons, all_map ds]
    cases d <;> rfl
theorem bu_all : BuS K cl bAll (rAll K) := by
  intro W bs s H ds vs Q S r h
  unfold bAll at h
  split at h
  · rename_i j
    obtain ⟨v, rfl, r1⟩ := r.one
    cases e : lAt s j with
    | none => exact (Run.of_no h (by simp only [e])).elim
    | some xs =>
      by_cases c : xs.all isBl = true
      · have q : ∀ v, Rp K cl bs H (.bl (xs.all blOf)) v → Q v H := Run.of_ok h (by simp only [e]; rw [if_pos c]) bs H (Gr.refl _ _) S
        obtain ⟨p, us, e1, _, e2, e3⟩ := S.lst e r1
        refine ⟨p, xs.map blOf, by rw [e1], ?_, ?_⟩
        · rw [← bls_ok e3 c]; exact SqL.of e2
        · rw [all_map]; exact q _ (.bl _)
      · exact (Run.of_no h (by simp only [e]; rw [if_neg c])).elim
  · exact h.elim
end
theorem s_len (hg : Gl X "len") (hm : X.mg "len" = none) (ha : SA X cl W (e0 :: es) aa) (he : starEach (e0 :: es) X.env = (false, eval e0 X.env) :: starEach es X.env := by rfl) (hpl : (backTo pos (starEach es X.env)).any (·.1) = false := by rfl) : SE X cl W (.Call (.Name "len" p) (e0 :: es) [] pos) (cCall bLen aa) :=
  s_bu (call_len_seq.or call_len_str) bu_len hg hm PySem.boot_len ha (by decide) (by decide) he hpl
theorem s_abs (hg : Gl X "abs") (hm : X.mg "abs" = none) (ha : SA X cl W (e0 :: es) aa) (he : starEach (e0 :: es) X.env = (false, eval e0 X.env) :: starEach es X.env := by rfl) (hpl : (backTo pos (starEach es X.env)).any (·.1) = false := by rfl) : SE X cl W (.Call (.Name "abs" p) (e0 :: es) [] pos) (cCall bAbs aa) :=
  s_bu call_abs bu_abs hg hm (by decide +kernel) ha (by decide) (by decide) he hpl
theorem s_max (hc : X.calm = true) (hg : Gl X "max") (hm : X.mg "max" = none) (ha : SA X cl W (e0 :: es) aa) (he : starEach (e0 :: es) X.env = (false, eval e0 X.env) :: starEach es X.env := by rfl) (hpl : (backTo pos (starEach es X.env)).any (·.1) = false := by rfl) : SE X cl W (.Call (.Name "max" p) (e0 :: es) [] pos) (cCall bMax aa) :=
  s_bu (call_max2 hc) bu_max hg hm (by decide +kernel) ha (by decide) (by decide) he hpl
theorem s_min (hc : X.calm = true) (hg : Gl X "min") (hm : X.mg "min" = none) (ha : SA X cl W (e0 :: es) aa) (he : starEach (e0 :: es) X.env = (false, eval e0 X.env) :: starEach es X.env := by rfl) (hpl : (backTo pos (starEach es X.env)).any (·.1) = false := by rfl) : SE X cl W (.Call (.Name "min" p) (e0 :: es) [] pos) (cCall bMin aa) :=
  s_bu (call_min2 hc) bu_min hg hm (by decide +kernel) ha (by decide) (by decide) he hpl
theorem s_int1 (hg : Gl X "int") (hm : X.mg "int" = none) (ha : SA X cl W (e0 :: es) aa) (he : starEach (e0 :: es) X.env = (false, eval e0 X.env) :: starEach es X.env := by rfl) (hpl : (backTo pos (starEach es X.env)).any (·.1) = false := by rfl) : SE X cl W (.Call (.Name "int" p) (e0 :: es) [] pos) (cCall bInt aa) :=
  s_ty call_int1 bu_int hg hm (by decide +kernel) ha (by decide) (by decide) he hpl
theorem s_list1 (hg : Gl X "list") (hm : X.mg "list" = none) (ha : SA X cl W (e0 :: es) aa) (he : starEach (e0 :: es) X.env = (false, eval e0 X.env) :: starEach es X.env := by rfl) (hpl : (backTo pos (starEach es X.env)).any (·.1) = false := by rfl) : SE X cl W (.Call (.Name "list" p) (e0 :: es) [] pos) (cCall bList aa) :=
  s_ty call_list_of bu_list hg hm (by decide +kernel) ha (by decide) (by decide) he hpl
theorem s_tuple1 (hg : Gl X "tuple") (hm : X.mg "tuple" = none) (ha : SA X cl W (e0 :: es) aa) (he : starEach (e0 :: es) X.env = (false, eval e0 X.env) :: starEach es X.env := by rfl) (hpl : (backTo pos (starEach es X.env)).any (·.1) = false := by rfl) : SE X cl W (.Call (.Name "tuple" p) (e0 :: es) [] pos) (cCall bTuple aa) :=
  s_ty call_tuple_of bu_tuple hg hm (by decide +kernel) ha (by decide) (by decide) he hpl
theorem s_all (hc : X.calm = true) (hg : Gl X "all") (hm : X.mg "all" = none) (ha : SA X cl W (e0 :: es) aa) (he : starEach (e0 :: es) X.env = (false, eval e0 X.env) :: starEach es X.env := by rfl) (hpl : (backTo pos (starEach es X.env)).any (·.1) = false := by rfl) : SE X cl W (.Call (.Name "all" p) (e0 :: es) [] pos) (cCall bAll aa) :=
  s_bu (cr_all hc) bu_all hg hm (by decide +kernel) ha (by decide) (by decide) he hpl
/-! of a list that nobody holds on to -/
section
variable {ca : CA}
theorem tL1_of {K : PySem.W.Frag} {r : List V → Hp → VK → Prop} {f : List D → Cm D} {σ : L2.St} {H : Hp} {Q : VK}
    (hf : ∀ (W : Value → Option Addr → Hp → Prop) bs s H p ds vs, StR K cl bs s H → H p = none → RpL K cl bs H ds vs → Run K cl W bs s H (f ds) (fun d bs' _ H' => ∀ v, Rp K cl bs' H' d v → Q v H') → r [.ref p] (upd H p (.lst vs)) Q)
    (h : TEof K cl W (fun e => bnd (ca e) f) σ H Q) : tCB r (tCons (TLof K cl W ca) tNil) σ H Q := by
  obtain ⟨bs, s, e, S, N, h⟩ := h
  exact ⟨bs, s, e, S, N, (Run.bnd h).imp fun xs b1 t1 H1 g1 S1 h1 p vs hp r1 => hf _ b1 t1 H1 p xs vs S1 hp r1 h1⟩
theorem s_tp (hg : Gl X "tuple") (hm : X.mg "tuple" = none) (ha : SL X cl W a ca) (h1 : starEach [a] X.env = (false, eval a X.env) :: starEach [] X.env := by rfl) : SE X cl W (.Call (.Name "tuple" p) [a] [] pos) (cTp ca) :=
  PE.imp (pe_callTy call_tuple_of hg hm (by decide +kernel) (pa_cons ha pa_nil h1) (by decide) (by decide) h1 rfl) fun σ H Q h => tL1_of (fun W bs s H p ds vs S hp r h => by
    refine ⟨p, vs, rfl, .inl ⟨SqL.of upd_same, fun l hl => ?_⟩⟩
    exact Run.newT (S.new hp) hl (r.mono (gr_new hp)) (h.up (gr_new hp))) h
theorem s_ln (hg : Gl X "len") (hm : X.mg "len" = none) (ha : SL X cl W a ca) (h1 : starEach [a] X.env = (false, eval a X.env) :: starEach [] X.env := by rfl) : SE X cl W (.Call (.Name "len" p) [a] [] pos) (cLn ca) :=
  PE.imp (pe_callB call_len_seq hg hm PySem.boot_len (pa_cons ha pa_nil h1) (by decide) (by decide) h1 rfl) fun σ H Q h => tL1_of (fun W bs s H p ds vs S hp r h => by
    refine ⟨p, vs, rfl, .inl (SqL.of upd_same), ?_⟩
    rw [← r.length]
    exact Run.of_ret h bs _ (gr_new hp) (S.new hp) _ (.int _)) h
theorem s_allA (hc : X.calm = true) (hg : Gl X "all") (hm : X.mg "all" = none) (ha : SL X cl W a ca) (h1 : starEach [a] X.env = (false, eval a X.env) :: starEach [] X.env := by rfl) : SE X cl W (.Call (.Name "all" p) [a] [] pos) (cAllA ca) :=
  PE.imp (pe_callB (cr_all hc) hg hm (by decide +kernel) (pa_cons ha pa_nil h1) (by decide) (by decide) h1 rfl) fun σ H Q h => tL1_of (fun W bs s H p ds vs S hp r h => by
    obtain ⟨c, h⟩ := Run.ite h
    refine ⟨p, ds.map blOf, rfl, ?_, ?_⟩
    · rw [← bls_ok r c]; exact SqL.of upd_same
    · rw [all_map]
      exact Run.of_ret h bs _ (gr_new hp) (S.new hp) _ (.bl _)) h
theorem ints_ok {K : PySem.W.Frag} {bs : List Addr} {H : Hp} : ∀ {ds : List D} {vs : List V} {ns : List Int}, RpL K cl bs H ds vs → intsD ds = some ns → vs = ns.map V.int
  | [], _, _, .nil, h => by cases h; rfl
  | d :: ds, _, ns, .cons h r, q => by
    cases d with
    | int i =>
      unfold intsD at q
      cases e : intsD ds with
      | none => rw [e] at q; cases q
      | some ms =>
        rw [e] at q
        cases q
        rw [ints_ok r e, h.int_inv]
        rfl
    | _ => cases q
theorem maxD_ok : ∀ {ns : List Int}, 0 < ns.length → maxD ns ∈ ns ∧ ∀ y ∈ ns, y ≤ maxD ns
  | [], h => by simp at h
  | [x], _ => by simp [maxD]
  | x :: y :: r, _ => by
    obtain ⟨h1, h2⟩ := maxD_ok (ns := y :: r) (by simp)
    unfold maxD
    refine ⟨?_, fun z hz => ?_⟩
    · by_cases c : x ≤ maxD (y :: r)
      · rw [Int.max_eq_right c]; exact List.mem_cons_of_mem _ h1
      · rw [Int.max_eq_left (by omega)]; exact List.mem_cons_self
    · rcases List.mem_cons.mp hz with rfl | hz
      · omega
      · have := h2 z hz; omega
theorem s_sumA (hc : X.calm = true) (hg : Gl X "sum") (hm : X.mg "sum" = none) (ha : SL X cl W a ca) (h1 : starEach [a] X.env = (false, eval a X.env) :: starEach [] X.env := by rfl) : SE X cl W (.Call (.Name "sum" p) [a] [] pos) (cSumA ca) :=
  PE.imp (pe_callB (cr_sum hc) hg hm (by decide +kernel) (pa_cons ha pa_nil h1) (by decide) (by decide) h1 rfl) fun σ H Q h => tL1_of (fun W bs s H p ds vs S hp r h => by
    unfold sumA at h
    cases e : intsD ds with
    | none => rw [e] at h; exact (show False from h).elim
    | some ns =>
      rw [e] at h
      refine ⟨p, ns, rfl, ?_, ?_⟩
      · rw [← ints_ok r e]; exact SqL.of upd_same
      · exact Run.of_ret h bs _ (gr_new hp) (S.new hp) _ (.int _)) h
theorem s_maxA (hc : X.calm = true) (hg : Gl X "max") (hm : X.mg "max" = none) (ha : SL X cl W a ca) (h1 : starEach [a] X.env = (false, eval a X.env) :: starEach [] X.env := by rfl) : SE X cl W (.Call (.Name "max" p) [a] [] pos) (cMaxA ca) :=
  PE.imp (pe_callB (cr_max hc) hg hm (by decide +kernel) (pa_cons ha pa_nil h1) (by decide) (by decide) h1 rfl) fun σ H Q h => tL1_of (fun W bs s H p ds vs S hp r h => by
    unfold maxA at h
    cases e : intsD ds with
    | none => rw [e] at h; exact (show False from h).elim
    | some ns =>
      rw [e] at h
      obtain ⟨c, h⟩ := Run.ite h
      refine ⟨p, ns, rfl, ?_, c, fun m m1 m2 => ?_⟩
      · rw [← ints_ok r e]; exact SqL.of upd_same
      · obtain ⟨n1, n2⟩ := maxD_ok c
        have : m = maxD ns := Int.le_antisymm (n2 m m1) (m2 _ n1)
        rw [this]
        exact Run.of_ret h bs _ (gr_new hp) (S.new hp) _ (.int _)) h
end
/-! isinstance(x, T) -/
theorem tyD_ok {K : PySem.W.Frag} {bs : List Addr} {s : Sto} {H : Hp} {d : D} {v : V} {t : String} (S : StR K cl bs s H) (r : Rp K cl bs H d v) (h : tyD s d = some t) : TyX K H v (.type t) := by
  cases d with
  | non => cases h; cases r; exact .base .non
  | bl b => cases h; cases r; exact .base (.bl b)
  | int b => cases h; cases r; exact .base (.int b)
  | str b => cases h; cases r; exact .base (.str b)
  | tup ds =>
    cases h
    cases r with
    | tup h1 _ =>
      rcases h1 with (h1 | ⟨o, h1⟩) | ⟨o, _, _, h1, h2, _⟩
      · exact .base (.tup (hid_some h1).2)
      · exact .fTuple (hid_some h1).2
      · exact .kTuple h1 h2
  | lst ds => cases h
  | fn x => cases h
  | box j =>
    cases r with
    | @box _ p hp =>
      obtain ⟨m, o, hm, ho, mr⟩ := S.box hp
      unfold tyD at h
      simp only [hm] at h
      cases m with
      | lst ds =>
        cases h
        cases o with
        | lst vs => exact .base (.lst ho)
        | _ => exact (show False from mr).elim
      | dk ds =>
        cases h
        cases o with
        | dK vs => exact .base (.dK ho)
        | _ => exact (show False from mr).elim
      | dt ds =>
        cases h
        cases o with
        | dT vs => exact .base (.dT ho)
        | _ => exact (show False from mr).elim
      | fd ds => cases h
      | ft ds => cases h
      | ins c fs => cases h
      | exo c j fs => cases h
theorem s_isi {T : Str} {tn : String} {p2 : Pos} (hg : Gl X "isinstance") (hm : X.mg "isinstance" = none) (gT : Gl X T) (mT : X.mg T = none) (bT : bootBuiltins T = some (.type tn)) (ha : SE X cl W a ca)
    (h1 : starEach [a, .Name T p2] X.env = (false, eval a X.env) :: starEach [.Name T p2] X.env := by rfl) (hn : T ≠ "__name__" := by decide) (hd : (T == ("__debug__" : Str)) = false := by decide) :
    SE X cl W (.Call (.Name "isinstance" p) [a, .Name T p2] [] pos) (cUn (dIsi tn) ca) := by
  refine PE.imp (pe_callB call_isi hg hm (by decide +kernel) (pa_cons ha (pa_cons (pe_bltn (v := .ty tn) gT mT bT rfl hn hd) pa_nil) h1) (by decide) (by decide) h1 rfl) fun σ H Q ⟨bs, s, e, S, N, h⟩ => ?_
  refine ⟨bs, s, e, S, N, (Run.bnd h).imp fun d b1 t1 H1 g1 S1 h1 v r1 => ?_⟩
  cases e1 : tyD t1 d with
  | none => exact (Run.of_no h1 (by unfold dIsi; simp only [e1])).elim
  | some t =>
    cases e2 : L2.kitB t tn with
    | none => exact (Run.of_no h1 (by unfold dIsi; simp only [e1, e2])).elim
    | some k => exact ⟨v, .ty tn, .type t, .type tn, k, rfl, .ty tn, tyD_ok S1 r1 e1, kit_ty e2, Run.of_ok h1 (by unfold dIsi; simp only [e1, e2]) b1 H1 (Gr.refl _ _) S1 _ (.bl _)⟩

/-! ### a def's promise, calls -/
/-- F: what of the caller's wish for an exception the def is told (all of it: fun E => E; a def that raises nothing: fun _ _ _ _ => False) -/
def spOf (K : PySem.W.Frag) (cl : Str → Addr) (F : XK → XK) (n : Nat) (g : List D → Cm D) : Sp := fun vs H Q E => ∃ bs s ds, ds.length = n ∧ StR K cl bs s H ∧ RpL K cl bs H ds vs ∧
  Run K cl (F E) bs s H (g ds) (fun d bs' _ H' => ∀ v, Rp K cl bs' H' d v → Q v H')
theorem spOf_len {K : PySem.W.Frag} {F : XK → XK} {n : Nat} {g : List D → Cm D} {vs : List V} {H : Hp} {Q : VK} {E : XK} (h : spOf K cl F n g vs H Q E) : vs.length = n := by
  obtain ⟨bs, s, ds, h1, _, h2, _⟩ := h
  rw [← h2.length, h1]
/-- the world a law's defs live in -/
structure Wd where
  P : Program
  w : World
  K : PySem.W.Frag
  mg : Str → Option Value
  base : Heap
  CX : CXT
  cl : Str → Addr
  F : XK → XK
/-- the def x of the module keeps the promise of g, at level k -/
structure Df (Y : Wd) (x : Str) (k n : Nat) (g : List D → Cm D) : Prop where
  ar : ∀ ds, ds.length ≠ n → ∀ s, g ds s = .no
  ex : ∃ f fd ps, Y.mg x = some (.ref f) ∧ PySem.W.keepIn Y.K (.ref f) = true ∧ Binds Y.K fd ps [] ∧ ps.length = n ∧ FnOk Y.P Y.w Y.K Y.mg Y.base Y.CX k f fd ps (spOf Y.K Y.cl Y.F n g)
/-- the context is one of this world, and what a callee raises may leave here -/
structure Lets (Y : Wd) (X : Cx) (W : WX) : Prop where
  p : X.prog = Y.P
  w : X.w = Y.w
  K : X.K = Y.K
  mg : X.mg = Y.mg
  base : X.base = Y.base
  pa : ∀ σ, PassesAt Y.CX X σ (fun u d H => W u d σ H)
  im : ∀ σ u d H, W u d σ H → Y.F (fun u d H => W u d σ H) u d H
theorem Run.wish {K : PySem.W.Frag} {cl : Str → Addr} {W W' : Value → Option Addr → Hp → Prop} {α : Type} {bs : List Addr} {s : Sto} {H : Hp} {m : Cm α} {P : α → List Addr → Sto → Hp → Prop} (h : Run K cl W bs s H m P) (i : ∀ u d H, W u d H → W' u d H) : Run K cl W' bs s H m P := by
  unfold Run at *
  cases e : m s with
  | ok a t => rw [e] at h; exact h
  | ex c fs t => rw [e] at h; exact fun b1 H1 u dx g1 S1 x1 => i _ _ _ (h b1 H1 u dx g1 S1 x1)
  | no => rw [e] at h; exact h
theorem s_call {Y : Wd} {k n : Nat} {g : List D → Cm D} (d : Df Y x k n g) (tk : Lets Y X W) (hr : Room k X.A) (hg : Gl X x) (ha : SA X Y.cl W (e0 :: es) aa) (hdb : (x == ("__debug__" : Str)) = false := by decide)
    (he : starEach (e0 :: es) X.env = (false, eval e0 X.env) :: starEach es X.env := by rfl) (hpl : (backTo pos (starEach es X.env)).any (·.1) = false := by rfl) : SE X Y.cl W (.Call (.Name x p) (e0 :: es) [] pos) (cCall g aa) := by
  obtain ⟨YP, Yw, YK, Ymg, Yb, YCX, Ycl, YF⟩ := Y
  obtain ⟨e1, e2, e3, e4, e5, pa, im⟩ := tk
  obtain ⟨Xp, Xw, XK, Xmg, Xb, XA, XN, Xs0, XH0, Xenv, Xo, Xst, Xex, Xfn, Xc, Xpn, Xxe⟩ := X
  simp only at e1 e2 e3 e4 e5
  subst e1 e2 e3 e4 e5
  obtain ⟨f, fd, ps, hm, hk, hb, hl, F⟩ := d.ex
  refine PE.imp (pe_callSD (E := fun σ u d H => W u d σ H) F hr hg hm hk hb .nil pa ha hdb he hpl) fun σ H Q ⟨bs, s, e, S, N, h⟩ => ?_
  refine ⟨bs, s, e, S, N, (Run.bnd h).imp fun ds b1 t1 H1 g1 S1 h1 vs r1 => ?_⟩
  show spOf _ _ _ n g (vs ++ []) H1 Q _
  rw [List.append_nil]
  by_cases hlen : ds.length = n
  · exact ⟨b1, t1, ds, hlen, S1, r1, h1.wish (im σ)⟩
  · exact (Run.of_no h1 (d.ar ds hlen t1)).elim
theorem s_call0 {Y : Wd} {k : Nat} {g : List D → Cm D} (d : Df Y x k 0 g) (tk : Lets Y X W) (hr : Room k X.A) (hg : Gl X x) (hdb : (x == ("__debug__" : Str)) = false := by decide) : SE X Y.cl W (.Call (.Name x p) [] [] pos) (cCall g aNil) := by
  obtain ⟨YP, Yw, YK, Ymg, Yb, YCX, Ycl, YF⟩ := Y
  obtain ⟨e1, e2, e3, e4, e5, pa, im⟩ := tk
  obtain ⟨Xp, Xw, XK, Xmg, Xb, XA, XN, Xs0, XH0, Xenv, Xo, Xst, Xex, Xfn, Xc, Xpn, Xxe⟩ := X
  simp only at e1 e2 e3 e4 e5
  subst e1 e2 e3 e4 e5
  obtain ⟨f, fd, ps, hm, hk, hb, hl, F⟩ := d.ex
  refine ⟨fun pins s σ H Q I ⟨bs, t, e, S, N, h⟩ => ?_⟩
  refine wpAny_Call_Name_kw (ld_glob I hg hm ?_ hdb)
  refine PySem.W.callWith_K0 I.kIn hk (run_fnSD (E := fun σ u d H => W u d σ H) (us := []) (vs := []) F hr hb .nil (pa σ) I .nil ?_)
  have h1 := Run.bnd h
  exact ⟨bs, t, [], rfl, S, .nil, (Run.now S h1).wish (im σ)⟩
end
end G

set_option Elab.async false
set_option linter.all false
set_option maxRecDepth 100000
set_option maxHeartbeats 4000000
/-! G, soundness: loops, comprehensions, statements, defs. -/
namespace G
open PySem L2 PySem.Spec PyProof.Rows

abbrev W0 : WX := fun _ _ _ _ => False
abbrev F0 : Value → Option Addr → Hp → Prop := fun _ _ _ => False

/-! ### what is walked -/
def ItOf (K : PySem.W.Frag) (cl : Str → Addr) (w : Src) (b0 : List Addr) (H0 : Hp) (J : It) : Prop := ∀ bs s H all, Gr b0 H0 bs H → StR K cl bs s H → w.items s = some all → ∀ i,
  (i < all.length → J.go i H ∧ ∀ x H', J.yld i H x H' → Gr bs H bs H' ∧ StR K cl bs s H' ∧ ∃ d, all[i]? = some d ∧ Rp K cl bs H' d x) ∧ (i = all.length → J.stop i H)
def ItOf' (K : PySem.W.Frag) (cl : Str → Addr) (d : D) (b0 : List Addr) (H0 : Hp) (J : It) : Prop := ∀ bs s H all, Gr b0 H0 bs H → StR K cl bs s H → itemsOf s d = some all → ∀ i,
  (i < all.length → J.go i H ∧ ∀ x H', J.yld i H x H' → Gr bs H bs H' ∧ StR K cl bs s H' ∧ ∃ d, all[i]? = some d ∧ Rp K cl bs H' d x) ∧ (i = all.length → J.stop i H)
def TIof (K : PySem.W.Frag) (cl : Str → Addr) (W : WX) (c : CS') : TI := fun σ H R => ∃ bs s e, StR K cl bs s H ∧ EnR K cl bs H e σ ∧ Run K cl (fun u dx H' => W u dx σ H') bs s H (c e) (fun w bs' _ H' => ∀ J, ItOf K cl w bs' H' J → R J H')
def SI (X : Cx) (cl : Str → Addr) (W : WX) (tg it : Expr) (c : CS') : Prop := PI X tg it (TIof X.K cl W c)
theorem PI.imp {X : Cx} {tg e : Expr} {t t' : TI} (h : PI X tg e t) (i : ∀ σ H Q, t' σ H Q → t σ H Q) : PI X tg e t' := ⟨fun pins s σ H Q I q => h.run pins s σ H Q I (i σ H Q q)⟩
section
variable {X : Cx} {cl : Str → Addr} {W : WX} {tg l a b : Expr} {ca cb : CE} {p pos : Pos}
theorem itOf_l {K : PySem.W.Frag} {d : D} {a : Addr} {b0 : List Addr} {H0 : Hp} (h : ∀ bs s H all, Gr b0 H0 bs H → StR K cl bs s H → itemsOf s d = some all → ∃ vs, SqL K H a vs ∧ RpL K cl bs H all vs)
    (inj : True) : ItOf' K cl d b0 H0 (Itl K a) := by
  intro bs s H all g S e i
  obtain ⟨vs, h1, h2⟩ := h bs s H all g S e
  refine ⟨fun hi => ?_, fun hi => ⟨vs, h1, by rw [← h2.length]; omega⟩⟩
  obtain ⟨v, e1, _⟩ := h2.get (List.getElem?_eq_getElem hi)
  refine ⟨⟨vs, v, h1, e1⟩, fun x H' y => ?_⟩
  obtain ⟨rfl, y⟩ := y
  obtain ⟨d', e2, r2⟩ := h2.get' (y vs h1)
  exact ⟨Gr.refl _ _, S, d', e2, r2⟩
theorem itOf_t {K : PySem.W.Frag} {d : D} {a : Addr} {b0 : List Addr} {H0 : Hp} (h : ∀ bs s H all, Gr b0 H0 bs H → StR K cl bs s H → itemsOf s d = some all → ∃ vs, SqT K H a vs ∧ RpL K cl bs H all vs) : ItOf' K cl d b0 H0 (Itt K a) := by
  intro bs s H all g S e i
  obtain ⟨vs, h1, h2⟩ := h bs s H all g S e
  refine ⟨fun hi => ?_, fun hi => ⟨vs, h1, by rw [← h2.length]; omega⟩⟩
  obtain ⟨v, e1, _⟩ := h2.get (List.getElem?_eq_getElem hi)
  refine ⟨⟨vs, v, h1, e1⟩, fun x H' y => ?_⟩
  obtain ⟨rfl, y⟩ := y
  obtain ⟨d', e2, r2⟩ := h2.get' (y vs h1)
  exact ⟨Gr.refl _ _, S, d', e2, r2⟩
/-- the lists that stand at v, from here on -/
theorem seqs_l {K : PySem.W.Frag} {d : D} {v : V} {b0 : List Addr} {H0 : Hp} (r : Rp K cl b0 H0 d v) {a : Addr} (e : v = .ref a) (nt : ∀ ds, d ≠ .tup ds) :
    ∀ bs s H all, Gr b0 H0 bs H → StR K cl bs s H → itemsOf s d = some all → ∃ vs, SqL K H a vs ∧ RpL K cl bs H all vs := by
  intro bs s H all g S q
  subst e
  have r' := r.mono g
  cases d with
  | lst xs =>
    cases q
    cases r' with
    | lst h1 h2 => exact ⟨_, (fzL_mono (fun a o e => (hid_some e).2) h1).sq, h2⟩
  | box j =>
    obtain ⟨p, vs, e1, _, e2, e3⟩ := S.lst (show lAt s j = some all from q) r'
    cases e1
    exact ⟨vs, SqL.of e2, e3⟩
  | tup xs => exact absurd rfl (nt xs)
  | _ => cases q
theorem seqs_t {K : PySem.W.Frag} {ds : List D} {v : V} {b0 : List Addr} {H0 : Hp} (r : Rp K cl b0 H0 (.tup ds) v) {a : Addr} (e : v = .ref a) :
    ∀ bs s H all, Gr b0 H0 bs H → StR K cl bs s H → itemsOf s (.tup ds) = some all → ∃ vs, SqT K H a vs ∧ RpL K cl bs H all vs := by
  intro bs s H all g S q
  subst e
  cases r.mono g with
  | tup h1 h2 => cases q; exact ⟨_, sqT_mono (fun a o e => (hid_some e).2) h1, h2⟩
/-- a list, a tuple or a text, walked -/
def iSq3 (K : PySem.W.Frag) (tl : TE) : TI := fun σ H R => tl σ H fun x H1 => (∃ a, x = .ref a ∧ (((∃ xs, SqL K H1 a xs) ∧ R (Itl K a) H1) ∨ ((∃ xs, SqT K H1 a xs) ∧ R (Itt K a) H1))) ∨ ∃ z, x = .str z ∧ R (Its z) H1
theorem pi_seq3 {tl : TE} (hl : PE X l tl) : PI X tg l (iSq3 X.K tl) := by
  refine ⟨fun pins s σ H R I h => ?_⟩
  refine thn (hl.run pins s σ H _ I h) fun v s1 ⟨x, H1, I1, r1, q1⟩ => ?_
  rcases q1 with ⟨a, ex, ⟨⟨xs, hq⟩, q⟩ | ⟨⟨xs, hq⟩, q⟩⟩ | ⟨z, ex, q⟩
  · subst ex
    cases r1
    obtain ⟨its, rv, pl, hz⟩ := I1.list hq
    exact wpAny_pyIter_list pl.isList (pi_one (tk := s1.toks) I1 _ (turn_list a _) ⟨_, Heap.get?_push_size _ rfl, rfl, rfl⟩ q)
  · subst ex
    cases r1
    obtain ⟨its, rv, pl, hz⟩ := I1.tuple hq
    exact wpAny_pyIter_tuple (show s1.heap.IsTuple a its.toArray from pl) (pi_one (tk := s1.toks) I1 _ (turn_tuple a _) ⟨_, Heap.get?_push_size _ rfl, rfl, rfl⟩ q)
  · subst ex
    obtain ⟨u, hu⟩ := r1
    subst hu
    cases wide : z.cps.all (· < 128)
    · exact wpAny_pyIter_wide wide (pi_one (tk := s1.toks) I1 _ (turn_str _ z u "str_iterator" (.inr rfl)) ⟨_, Heap.get?_push_size _ rfl, rfl, rfl⟩ q)
    · exact wpAny_pyIter_ascii wide (pi_one (tk := s1.toks) I1 _ (turn_str _ z u "str_ascii_iterator" (.inl rfl)) ⟨_, Heap.get?_push_size _ rfl, rfl, rfl⟩ q)
theorem itOf_s {K : PySem.W.Frag} {z : Str} {b0 : List Addr} {H0 : Hp} : ItOf K cl (.seq (.str z)) b0 H0 (Its z) := by
  intro bs s H all g S e i
  have e : (if z.length ≤ big then some (chars z) else none) = some all := e
  by_cases c : z.length ≤ big
  · rw [if_pos c] at e
    cases e
    have hl : (chars z).length = z.cps.size := by simp [chars]
    rw [hl]
    refine ⟨fun hi => ⟨hi, fun x H' y => ?_⟩, fun hi => Nat.le_of_eq hi.symm⟩
    obtain ⟨rfl, k, e1, rfl⟩ := y
    refine ⟨Gr.refl _ _, S, .str ⟨#[k]⟩, ?_, .str _⟩
    unfold chars
    rw [List.getElem?_map, Array.getElem?_toList, e1]
    rfl
  · rw [if_neg c] at e; cases e
theorem row_seq {s : Sto} {d : D} (h : ∀ z, d ≠ .str z) : rowOf s d = itemsOf s d := by
  cases d <;> first | rfl | exact absurd rfl (h _)
theorem i_seq (hl : SE X cl W l ca) : SI X cl W tg l (iSeq ca) := PI.imp (pi_seq3 hl) fun σ H R ⟨bs, s, e, S, N, h⟩ => by
  refine ⟨bs, s, e, S, N, (Run.bnd h).imp fun d b1 t1 H1 g1 S1 h1 v r1 => ?_⟩
  cases q : rowOf t1 d with
  | none => exact (Run.of_no h1 (by simp only [q])).elim
  | some all =>
    have k := Run.of_ok h1 (a := .seq d) (t := t1) (by simp only [q]) b1 H1 (Gr.refl _ _) S1
    by_cases ns : ∃ z, d = .str z
    · obtain ⟨z, rfl⟩ := ns
      exact .inr ⟨z, r1.str_inv, k _ itOf_s⟩
    · have ne : ∀ z, d ≠ .str z := fun z e => ns ⟨z, e⟩
      have up : ∀ {b : List Addr} {H : Hp} {J : It}, ItOf' X.K cl d b H J → ItOf X.K cl (.seq d) b H J := fun h bs s H all g S e i => h bs s H all g S (by rw [← row_seq ne]; exact e) i
      rw [row_seq ne] at q
      obtain ⟨a, vs, e1, e2, e3⟩ := S1.items q r1
      refine .inl ⟨a, e1, ?_⟩
      by_cases nt : ∃ ds, d = .tup ds
      · obtain ⟨ds, rfl⟩ := nt
        have f := seqs_t (cl := cl) r1 e1
        obtain ⟨us, h1', _⟩ := f b1 t1 H1 all (Gr.refl _ _) S1 q
        exact .inr ⟨⟨us, h1'⟩, k _ (up (itOf_t f))⟩
      · have f := seqs_l (cl := cl) r1 e1 fun ds e => nt ⟨ds, e⟩
        obtain ⟨us, h1', _⟩ := f b1 t1 H1 all (Gr.refl _ _) S1 q
        exact .inl ⟨⟨us, h1'⟩, k _ (up (itOf_l f trivial))⟩
theorem rng_len (lo : Int) (n : Nat) : (rngD lo n).length = n := by simp [rngD]
theorem rng_get {lo : Int} {n i : Nat} (h : i < n) : (rngD lo n)[i]? = some (.int (lo + i)) := by simp [rngD, h]
theorem itOf_r {K : PySem.W.Frag} {lo : Int} {n : Nat} {b0 : List Addr} {H0 : Hp} : ItOf K cl (.rng lo n) b0 H0 (Itr lo n) := by
  intro bs s H all g S e i
  cases e
  rw [rng_len]
  refine ⟨fun hi => ⟨hi, fun x H' y => ?_⟩, fun hi => Nat.le_of_eq hi.symm⟩
  obtain ⟨rfl, rfl⟩ := y
  exact ⟨Gr.refl _ _, S, _, rng_get hi, .int _⟩
theorem i_rng (hg : Gl X "range") (hm : X.mg "range" = none) (ha : SE X cl W a ca) (hs : starEach [a] X.env = [(false, eval a X.env)] := by rfl) (hs2 : starEach [a] X.env = (false, eval a X.env) :: starEach [] X.env := by rfl) : SI X cl W tg (.Call (.Name "range" p) [a] [] pos) (iRng ca) :=
  PI.imp (pi_range1 hg hm (pa_cons ha pa_nil hs2) hs) fun σ H R ⟨bs, s, e, S, N, h⟩ => by
    refine ⟨bs, s, e, S, N, (Run.bnd h).imp fun d b1 t1 H1 g1 S1 h1 v r1 => ?_⟩
    cases d with
    | int j =>
      obtain ⟨c, h1⟩ := Run.ite h1
      exact ⟨j, by rw [r1.int_inv], c.1, c.2, Run.now S1 h1 _ itOf_r⟩
    | _ => exact (show False from h1).elim
theorem i_rng2 (hg : Gl X "range") (hm : X.mg "range" = none) (ha : SE X cl W a ca) (hb : SE X cl W b cb) (hs : starEach [a, b] X.env = [(false, eval a X.env), (false, eval b X.env)] := by rfl) (hs2 : starEach [b] X.env = [(false, eval b X.env)] := by rfl)
    (hs3 : starEach [a, b] X.env = (false, eval a X.env) :: starEach [b] X.env := by rfl) (hs4 : starEach [b] X.env = (false, eval b X.env) :: starEach [] X.env := by rfl) : SI X cl W tg (.Call (.Name "range" p) [a, b] [] pos) (iRng2 ca cb) :=
  PI.imp (pi_range2 hg hm (pa_cons ha (pa_cons hb pa_nil hs4) hs3) hs hs2) fun σ H R ⟨bs, s, e, S, N, h⟩ => by
    refine ⟨bs, s, e, S, N, (Run.bnd h).imp fun d b1 t1 H1 g1 S1 h1 v r1 => ⟨b1, t1, e, S1, N.mono g1, (Run.bnd h1).imp fun d2 b2 t2 H2 g2 S2 h2 w r2 => ?_⟩⟩
    cases d with
    | int i =>
      cases d2 with
      | int j =>
        obtain ⟨c, h2⟩ := Run.ite h2
        exact ⟨i, j, by rw [r1.int_inv, r2.int_inv], c, Run.now S2 h2 _ itOf_r⟩
      | _ => exact (show False from h2).elim
    | _ => exact (show False from h2).elim

/-! ### targets -/
def TGof (K : PySem.W.Frag) (cl : Str → Addr) (t : Tg) : TG := fun v σ H Q => ∃ bs s e d e', StR K cl bs s H ∧ EnR K cl bs H e σ ∧ Rp K cl bs H d v ∧ bindT t d e = some e' ∧ ∀ σ', EnR K cl bs H e' σ' → Q σ' H
def SG (X : Cx) (cl : Str → Addr) (e : Expr) (t : Tg) : Prop := PG X e (TGof X.K cl t)
theorem PG.imp {X : Cx} {e : Expr} {t t' : TG} (h : PG X e t) (i : ∀ v σ H Q, t' v σ H Q → t v σ H Q) : PG X e t' := ⟨fun pins s σ H v u Q I r q => h.run pins s σ H v u Q I r (i v σ H Q q)⟩
theorem g_name {x : Str} (i : Nat) (hN : X.N.Nodup) (hi : X.N[i]? = some x := by rfl) (hx : Loc X.env.scope x := by first | exact Or.inl rfl | exact Or.inr rfl) (hf : X.fn x = true ∨ X.env.scope.names.lookup x = some .local := by first | exact .inl rfl | exact .inr rfl) : SG X cl (.Name x pos) (.v i) :=
  PG.imp (pg_name hN hi hx hf) fun v σ H Q ⟨bs, s, e, d, e', S, N, r, h1, h2⟩ => by
    cases h1
    exact h2 _ (N.set i r)
def TGsOf (K : PySem.W.Frag) (cl : Str → Addr) (is : List Nat) : TGs := fun vs σ H Q => ∃ bs e ds e', EnR K cl bs H e σ ∧ RpL K cl bs H ds vs ∧ stAll e is ds = some e' ∧ ∀ σ', EnR K cl bs H e' σ' → Q σ' H
theorem PGs.imp {X : Cx} {e : List Expr} {t t' : TGs} (h : PGs X e t) (i : ∀ v σ H Q, t' v σ H Q → t v σ H Q) : PGs X e t' := ⟨fun pins s σ H v u Q I r q => h.run pins s σ H v u Q I r (i v σ H Q q)⟩
theorem gs_nil : PGs X [] (TGsOf X.K cl []) := PGs.imp pgs_nil fun vs σ H Q ⟨bs, e, ds, e', N, r, h1, h2⟩ => by
  cases ds with
  | nil => cases r; cases h1; exact ⟨rfl, h2 _ N⟩
  | cons d ds => cases h1
theorem gs_cons {x : Str} {es : List Expr} {is : List Nat} (i : Nat) (hN : X.N.Nodup) (h2 : PGs X es (TGsOf X.K cl is)) (hi : X.N[i]? = some x := by rfl) (hx : Loc X.env.scope x := by first | exact Or.inl rfl | exact Or.inr rfl) (hf : X.fn x = true ∨ X.env.scope.names.lookup x = some .local := by first | exact .inl rfl | exact .inr rfl)
    (hs : (assignEach (.Name x pos :: es) X.env).map (·.2) = assign (.Name x pos) X.env :: (assignEach es X.env).map (·.2) := by rfl) : PGs X (.Name x pos :: es) (TGsOf X.K cl (i :: is)) :=
  PGs.imp (pgs_cons (pg_name hN hi hx hf) h2 hs) fun vs σ H Q ⟨bs, e, ds, e', N, r, h1, h2⟩ => by
    cases ds with
    | nil => cases h1
    | cons d ds =>
      cases r with
      | cons r rr => exact ⟨_, _, rfl, bs, _, ds, e', N.set i r, rr, h1, h2⟩
theorem g_tup {es : List Expr} {k n : Nat} {is : List Nat} (hc : X.calm = true) (h : PGs X es (TGsOf X.K cl is)) (hl : is.length = n := by rfl) (hn : (assignEach es X.env).length = n := by rfl) (hst : (assignEach es X.env).findIdx? (·.1) = none := by rfl) : SG X cl (.Tuple es k pos) (.t is) :=
  PG.imp (pg_tup hc h hn hst) fun v σ H Q ⟨bs, s, e, d, e', S, N, r, h1, h2⟩ => by
    cases d with
    | tup ds =>
      cases r with
      | @tup _ p vs q1 q2 =>
        have hlen : ∀ (is : List Nat) (ds : List D) (e : En), stAll e is ds = some e' → ds.length = is.length := by
          intro is
          induction is with
          | nil => intro ds e h; cases ds with | nil => rfl | cons _ _ => cases h
          | cons i is ih => intro ds e h; cases ds with | nil => cases h | cons d ds => simp [ih ds _ h]
        exact ⟨p, vs, rfl, sqT_mono (fun a o e => (hid_some e).2) q1, by rw [← q2.length, hlen _ _ _ h1, hl], bs, e, ds, e', N, q2, h1, h2⟩
    | _ => cases h1

/-! ### statements -/
def FlP (K : PySem.W.Frag) (cl : Str → Addr) (W : WX) (E : Ends) (fl : Fl) (bs : List Addr) (_ : Sto) (H : Hp) : Prop := match fl with
  | .nx e => ∀ σ', EnR K cl bs H e σ' → E.nx σ' H
  | .rt d => ∀ v, Rp K cl bs H d v → E.rt v H
  | .bk e => ∀ σ', EnR K cl bs H e σ' → E.bk σ' H
  | .ct e => ∀ σ', EnR K cl bs H e σ' → E.ct σ' H
  | .ex c fs e => ∀ σ' u dx, EnR K cl bs H e σ' → ExR K cl bs H c fs u dx → W u dx σ' H
def TSof (K : PySem.W.Frag) (cl : Str → Addr) (W : WX) (c : CS) : TS := fun E σ H => ∃ bs s e, StR K cl bs s H ∧ EnR K cl bs H e σ ∧ Run K cl F0 bs s H (c e) (FlP K cl W E)
def SS (X : Cx) (cl : Str → Addr) (W : WX) (st : Stmt) (c : CS) : Prop := PS X st (TSof X.K cl W c)
def SSs (X : Cx) (cl : Str → Addr) (W : WX) (st : List Stmt) (c : CS) : Prop := PSs X st (TSof X.K cl W c)
theorem Run.lft {K : PySem.W.Frag} {α : Type} {bs : List Addr} {s : Sto} {H : Hp} {e : En} {σ : L2.St} {m : Cm α} {k : α → Cm Fl} {E : Ends} (N : EnR K cl bs H e σ) (h : Run K cl F0 bs s H (lft e m k) (FlP K cl W E)) :
    Run K cl (fun u dx H' => W u dx σ H') bs s H m (fun a bs' t H' => Run K cl F0 bs' t H' (k a) (FlP K cl W E)) := by
  unfold Run G.lft at *
  cases q : m s with
  | ok a t =>
    rw [q] at h
    simp only at h ⊢
    intro b1 H1 g1 S1
    cases q2 : k a t with
    | ok b u => rw [q2] at h; exact fun b2 H2 g2 S2 => h b2 H2 (g1.trans g2) S2
    | ex c fs u => rw [q2] at h; exact fun b2 H2 x dx g2 S2 X2 => h b2 H2 x dx (g1.trans g2) S2 X2
    | no => rw [q2] at h; exact h
  | ex c fs t =>
    rw [q] at h
    simp only at h ⊢
    exact fun b1 H1 u dx g1 S1 X1 => h b1 H1 g1 S1 σ u dx (N.mono g1) X1
  | no => rw [q] at h; exact h
theorem ss_nil : SSs X cl W [] sNil := PSs.imp pss_nil fun E σ H ⟨bs, s, e, S, N, h⟩ => (Run.now S (a := Fl.nx e) (P := FlP X.K cl W E) h) σ N
theorem ss_cons {st : Stmt} {sts : List Stmt} {c d : CS} (h1 : SS X cl W st c) (h2 : SSs X cl W sts d) : SSs X cl W (st :: sts) (sSeq c d) := PSs.imp (pss_cons h1 h2) fun E σ H ⟨bs, s, e, S, N, h⟩ =>
  ⟨bs, s, e, S, N, (Run.bnd h).imp fun fl b1 t1 H1 g1 S1 k => by
    cases fl with
    | nx e' => exact fun σ' N' => ⟨b1, t1, e', S1, N', k⟩
    | rt d => exact Run.now S1 (W := F0) (a := Fl.rt d) (P := FlP X.K cl W E) k
    | bk e' => exact Run.now S1 (W := F0) (a := Fl.bk e') (P := FlP X.K cl W E) k
    | ct e' => exact Run.now S1 (W := F0) (a := Fl.ct e') (P := FlP X.K cl W E) k
    | ex c fs e' => exact Run.now S1 (W := F0) (a := Fl.ex c fs e') (P := FlP X.K cl W E) k⟩
theorem ss_one {st : Stmt} {c : CS} (h1 : SS X cl W st c) : SSs X cl W [st] c := pss_one h1
variable {e : Expr} {c : CE} {t : CT} {d1 d2 : CS}
theorem ss_set {x : Str} {p' : Pos} (i : Nat) (hN : X.N.Nodup) (he : SE X cl W e c) (hi : X.N[i]? = some x := by rfl) (hx : Loc X.env.scope x := by first | exact Or.inl rfl | exact Or.inr rfl) (hs : swapsWith e (some (.Name x p')) pos.line X.env = pure false := by rfl)
    (hf : X.fn x = true ∨ X.env.scope.names.lookup x = some .local := by first | exact .inl rfl | exact .inr rfl) : SS X cl W (.Assign [.Name x p'] e pos) (sSet i c) :=
  PS.imp (ps_set hN hi hx he hs hf) fun E σ H ⟨bs, s, e, S, N, h⟩ =>
    ⟨bs, s, e, S, N, (Run.lft N h).imp fun d b1 t1 H1 g1 S1 k v r => (Run.now S1 (a := Fl.nx _) (P := FlP X.K cl W E) k) _ ((N.mono g1).set i r)⟩
theorem ss_drop (he : SE X cl W e c) (hs : swapsWith e none pos.line X.env = pure false := by rfl) : SS X cl W (.Expr e pos) (sDrop c) := PS.imp (ps_expr he hs) fun E σ H ⟨bs, s, e, S, N, h⟩ =>
  ⟨bs, s, e, S, N, (Run.lft N h).imp fun d b1 t1 H1 g1 S1 k v r => (Run.now S1 (a := Fl.nx _) (P := FlP X.K cl W E) k) _ (N.mono g1)⟩
theorem ss_ret (he : SE X cl W e c) : SS X cl W (.Return (some e) pos) (sRet c) := PS.imp (ps_ret he) fun E σ H ⟨bs, s, e, S, N, h⟩ =>
  ⟨bs, s, e, S, N, (Run.lft N h).imp fun d b1 t1 H1 g1 S1 k v r => (Run.now S1 (a := Fl.rt _) (P := FlP X.K cl W E) k) _ r⟩
theorem ss_retN : SS X cl W (.Return none pos) sRetN := PS.imp ps_retN fun E σ H ⟨bs, s, e, S, N, h⟩ => (Run.now S (a := Fl.rt _) (P := FlP X.K cl W E) h) _ .non
theorem ss_pass : SS X cl W (.Pass pos) sNil := PS.imp ps_pass fun E σ H ⟨bs, s, e, S, N, h⟩ => (Run.now S (a := Fl.nx e) (P := FlP X.K cl W E) h) σ N
theorem ss_break : SS X cl W (.Break pos) sBreak := PS.imp ps_break fun E σ H ⟨bs, s, e, S, N, h⟩ => (Run.now S (a := Fl.bk e) (P := FlP X.K cl W E) h) σ N
theorem ss_cont : SS X cl W (.Continue pos) sCont := PS.imp ps_continue fun E σ H ⟨bs, s, e, S, N, h⟩ => (Run.now S (a := Fl.ct e) (P := FlP X.K cl W E) h) σ N
theorem ss_none {sts : List Stmt} : SSs X cl W sts (fun _ => noC) := ⟨fun _ _ _ _ _ _ h => by
  obtain ⟨_, _, _, _, _, h⟩ := h
  exact (show False from h).elim⟩
theorem ss_never {st : Stmt} : SS X cl W st sNever := PS.imp ps_never fun E σ H ⟨bs, s, e, S, N, h⟩ => h
theorem ss_if {a b : List Stmt} (hc : ST X cl W e t) (ha : SSs X cl W a d1) (hb : SSs X cl W b d2) : SS X cl W (.If e a b pos) (sIf t d1 d2) := PS.imp (ps_if hc ha hb) fun E σ H ⟨bs, s, e, S, N, h⟩ =>
  ⟨bs, s, e, S, N, (Run.lft N h).imp fun d b1 t1 H1 g1 S1 k => by
    cases d with
    | true => exact ⟨b1, t1, e, S1, N.mono g1, k⟩
    | false => exact ⟨b1, t1, e, S1, N.mono g1, k⟩⟩
/-- name op= e -/
theorem ss_aug {x : Str} {p' : Pos} {op : Operator} {f : D → D → Cm D} {r : R2} (i : Nat) (hN : X.N.Nodup) (ho : OpR X (inplaceOp op) r) (of : OpS X.K cl f r) (he : SE X cl W e c) (hi : X.N[i]? = some x := by rfl) (hx : Loc X.env.scope x := by first | exact Or.inl rfl | exact Or.inr rfl)
    (hf : X.fn x = true ∨ X.env.scope.names.lookup x = some .local := by first | exact .inl rfl | exact .inr rfl) : SS X cl W (.AugAssign (.Name x p') op e pos) (sAug i f c) :=
  PS.imp (ps_aug (ti := r) hN hi hx he (fun pins s σ H x y v u Q I r1 r2 h => ho pins s σ H x y v u Q I r1 r2 h) hf) fun E σ H ⟨bs, s, e, S, N, h⟩ => by
    cases q : sl e i with
    | none => exact (Run.of_no h (by unfold sAug; simp only [q]; rfl)).elim
    | some d0 =>
      obtain ⟨v0, hv, r0⟩ := N.at_ i d0 (sl_get.mp q)
      have h' : Run X.K cl F0 bs s H (lft e (c e) fun y => lft e (f d0 y) fun z => ret (.nx (st e i (some z)))) (FlP X.K cl W E) := by
        have e1 : sAug i f c e = (lft e (c e) fun y => lft e (f d0 y) fun z => ret (.nx (st e i (some z)))) := by unfold sAug; rw [q]
        rw [e1] at h
        exact h
      refine ⟨v0, hv, bs, s, e, S, N, (Run.lft N h').imp fun d b1 t1 H1 g1 S1 k v r => ?_⟩
      refine of _ b1 t1 H1 d0 d v0 v _ S1 (r0.mono g1) r ((Run.lft (N.mono g1) k).imp fun z b2 t2 H2 g2 S2 k2 w r2 => ?_)
      exact (Run.now S2 (a := Fl.nx _) (P := FlP X.K cl W E) k2) _ (((N.mono g1).mono g2).set i r2)
/-- o[i] = v of a list -/
def PuS (K : PySem.W.Frag) (cl : Str → Addr) (f : D → D → D → Cm Unit) (r : TSet) : Prop :=
  ∀ (W : Value → Option Addr → Hp → Prop) bs s H x y z v w u (Q : Hp → Prop), StR K cl bs s H → Rp K cl bs H x v → Rp K cl bs H y w → Rp K cl bs H z u → Run K cl W bs s H (f x y z) (fun _ _ _ H' => Q H') → r v w u H Q
theorem pu_lst {K : PySem.W.Frag} : PuS K cl dPutL rSetL := by
  intro W bs s H x y z v w u Q S r1 r2 r3 h
  cases x with
  | box j =>
    cases y with
    | int k =>
      cases q : lAt s j with
      | none => exact (Run.of_no h (by unfold dPutL; simp only [q])).elim
      | some ds =>
        obtain ⟨p, vs, e1, hp, e2, e3⟩ := S.lst q r1
        cases q2 : ixN ds.length k with
        | none => exact (Run.of_no h (by unfold dPutL; simp only [q, q2])).elim
        | some m =>
          refine ⟨p, vs, k, m, e1, r2.int_inv, e2, by rw [← e3.length]; exact q2, ?_⟩
          exact Run.of_ok h (a := ()) (t := s.set j (.lst (ds.set m z))) (by unfold dPutL; simp only [q, q2]) bs _ (gr_write hp e2) (S.write hp e2 (m := .lst (ds.set m z)) (o := .lst (vs.set m u)) (e3.set r3 m))
    | _ => exact (show False from h).elim
  | _ => exact (show False from h).elim
theorem ss_put {o i : Expr} {co ci : CE} {f : D → D → D → Cm Unit} {r : TSet} {p' : Pos} (hp : PSet X r) (pf : PuS X.K cl f r) (ho : SE X cl W o co) (hi : SE X cl W i ci) (he : SE X cl W e c)
    (hs : swapsWithSole [.Subscript o i p'] e pos.line X.env = pure false := by rfl) (hw : swappedStores [.Subscript o i p'] e X.env = pure none := by rfl) (h1 : (assignEach [.Subscript o i p'] X.env).map (·.2) = [assign (.Subscript o i p') X.env] := by rfl)
    (ha : ∀ v, assign (.Subscript o i p') X.env v = (do
      let ov ← holding [v] (eval o X.env)
      let iv ← holding [v, ov] (eval i X.env)
      standAt p'
      holding [v, ov, iv] (setItem ov iv v)
      release [v, ov, iv] []) := by intro _; rfl) : SS X cl W (.Assign [.Subscript o i p'] e pos) (sPut f co ci c) :=
  PS.imp (ps_asg he (pg_sub ho hi hp ha) hs hw h1) fun E σ H ⟨bs, s, e, S, N, h⟩ => by
    refine ⟨bs, s, e, S, N, (Run.lft N h).imp fun z b1 t1 H1 g1 S1 k v r => ⟨b1, t1, e, S1, N.mono g1, (Run.lft (N.mono g1) k).imp fun x b2 t2 H2 g2 S2 k2 w r2 => ⟨b2, t2, e, S2, (N.mono g1).mono g2, (Run.lft ((N.mono g1).mono g2) k2).imp fun y b3 t3 H3 g3 S3 k3 u r3 => ?_⟩⟩⟩
    have N3 := ((N.mono g1).mono g2).mono g3
    exact pf _ b3 t3 H3 x y z w u v _ S3 (r2.mono g3) r3 (r.mono (g2.trans g3)) ((Run.lft N3 k3).imp fun _ b4 t4 H4 g4 S4 k4 => (Run.now S4 (a := Fl.nx e) (P := FlP X.K cl W E) k4) _ (N3.mono g4))
/-- a, b = x, y with plain local names -/
theorem ss_par2 {i j : Nat} {x y : Str} {a b : Expr} {ca : CA} {px py pt : Pos} {kt k2 pt2} (hc : X.calm = true) (hN : X.N.Nodup) (ha : SA X cl W [a, b] ca) (hi : X.N[i]? = some x := by rfl) (hj : X.N[j]? = some y := by rfl) (hij : i ≠ j := by decide)
    (hx : X.env.scope.names.lookup x = some .local := by rfl) (hy : X.env.scope.names.lookup y = some .local := by rfl)
    (hw : swappedStores [.Tuple [.Name x px, .Name y py] kt pt] (.Tuple [a, b] k2 pt2) X.env = pure (some [x, y]) := by rfl)
    (hs : swapsWithSole [.Tuple [.Name x px, .Name y py] kt pt] (.Tuple [a, b] k2 pt2) pos.line X.env = pure false := by rfl) :
    SS X cl W (.Assign [.Tuple [.Name x px, .Name y py] kt pt] (.Tuple [a, b] k2 pt2) pos) (sPar [i, j] ca) :=
  PS.imp (ps_par hc hN hi hj hij hx hy ha hw hs) fun E σ H ⟨bs, s, e, S, N, h⟩ => by
    refine ⟨bs, s, e, S, N, (Run.lft N h).imp fun ds b1 t1 H1 g1 S1 k vs r => ?_⟩
    cases q : stAll e [i, j] ds with
    | none => exact (Run.of_no k (by simp only [q]; rfl)).elim
    | some e' =>
      simp only [q] at k
      have N1 := N.mono g1
      match ds, r, q with
      | [], r, q => cases q
      | [_], r, q => cases q
      | d1 :: d2 :: d3 :: _, r, q => cases q
      | [d1, d2], r, q =>
        obtain ⟨v, w, rfl, r1, r2⟩ := r.two
        cases q
        exact ⟨v, w, rfl, (Run.now S1 (a := Fl.nx _) (P := FlP X.K cl W E) k) _ ((N1.set i r1).set j r2)⟩
theorem ss_par3 {i j l : Nat} {x y z : Str} {a b c : Expr} {ca : CA} {px py pz pt : Pos} {kt k2 pt2} (hc : X.calm = true) (hN : X.N.Nodup) (ha : SA X cl W [a, b, c] ca) (hi : X.N[i]? = some x := by rfl) (hj : X.N[j]? = some y := by rfl) (hl : X.N[l]? = some z := by rfl) (hij : i ≠ j := by decide) (hil : i ≠ l := by decide) (hjl : j ≠ l := by decide)
    (hx : X.env.scope.names.lookup x = some .local := by rfl) (hy : X.env.scope.names.lookup y = some .local := by rfl) (hz : X.env.scope.names.lookup z = some .local := by rfl)
    (hw : swappedStores [.Tuple [.Name x px, .Name y py, .Name z pz] kt pt] (.Tuple [a, b, c] k2 pt2) X.env = pure (some [x, y, z]) := by rfl)
    (hs : swapsWithSole [.Tuple [.Name x px, .Name y py, .Name z pz] kt pt] (.Tuple [a, b, c] k2 pt2) pos.line X.env = pure false := by rfl) :
    SS X cl W (.Assign [.Tuple [.Name x px, .Name y py, .Name z pz] kt pt] (.Tuple [a, b, c] k2 pt2) pos) (sPar [i, j, l] ca) :=
  PS.imp (ps_par3 hc hN hi hj hl hij hil hjl hx hy hz ha hw hs) fun E σ H ⟨bs, s, e, S, N, h⟩ => by
    refine ⟨bs, s, e, S, N, (Run.lft N h).imp fun ds b1 t1 H1 g1 S1 k vs r => ?_⟩
    cases q : stAll e [i, j, l] ds with
    | none => exact (Run.of_no k (by simp only [q]; rfl)).elim
    | some e' =>
      simp only [q] at k
      have N1 := N.mono g1
      match ds, r, q with
      | [], r, q => cases q
      | [_], r, q => cases q
      | [_, _], r, q => cases q
      | d1 :: d2 :: d3 :: d4 :: _, r, q => cases q
      | [d1, d2, d3], r, q =>
        cases r with
        | cons r1 rr =>
          obtain ⟨v, w, rfl, r2, r3⟩ := rr.two
          cases q
          exact ⟨_, v, w, rfl, (Run.now S1 (a := Fl.nx _) (P := FlP X.K cl W E) k) _ (((N1.set i r1).set j r2).set l r3)⟩
/-- a, b, .. = e, a tuple -/
theorem ss_unp {es : List Expr} {k n : Nat} {is : List Nat} {p' : Pos} (hc : X.calm = true) (h : PGs X es (TGsOf X.K cl is)) (he : SE X cl W e c) (hl : is.length = n := by rfl) (hn : (assignEach es X.env).length = n := by rfl) (hst : (assignEach es X.env).findIdx? (·.1) = none := by rfl)
    (hs : swapsWithSole [.Tuple es k p'] e pos.line X.env = pure false := by rfl) (hw : swappedStores [.Tuple es k p'] e X.env = pure none := by rfl) (h1 : (assignEach [.Tuple es k p'] X.env).map (·.2) = [assign (.Tuple es k p') X.env] := by rfl) :
    SS X cl W (.Assign [.Tuple es k p'] e pos) (sUnp is c) :=
  PS.imp (ps_asg he (g_tup (cl := cl) hc h hl hn hst) hs hw h1) fun E σ H ⟨bs, s, e, S, N, h⟩ => by
    refine ⟨bs, s, e, S, N, (Run.lft N h).imp fun z b1 t1 H1 g1 S1 k v r => ?_⟩
    cases z with
    | tup ds =>
      cases q : stAll e is ds with
      | none => exact (Run.of_no k (by simp only [q]; rfl)).elim
      | some e' =>
        simp only [q] at k
        exact ⟨b1, t1, e, .tup ds, e', S1, N.mono g1, r, q, fun σ' N' => (Run.now S1 (a := Fl.nx e') (P := FlP X.K cl W E) k) _ N'⟩
    | _ => exact (show False from k).elim
end
end G

set_option Elab.async false
set_option linter.all false
set_option maxRecDepth 100000
set_option maxHeartbeats 4000000
/-! G, soundness: what is walked by zip and enumerate, of lists, tuples, texts in any mix. -/
namespace G
open PySem L2 PySem.Spec PyProof.Rows

/-- a walked thing: a list, a tuple, a text -/
inductive SrcK where
  | l (p : Addr) | t (p : Addr) | s (z : Str) (u : Tok)
def chV (z : Str) : List V := z.cps.toList.map fun c => V.str ⟨#[c]⟩
def SrcK.rows (K : PySem.W.Frag) (H : Hp) : SrcK → List V → Prop
  | .l p, vs => SqL K H p vs
  | .t p, vs => SqT K H p vs
  | .s z _, vs => vs = chV z
def SrcK.fp : SrcK → List Addr
  | .l p => [p]
  | .t p => [p]
  | .s _ _ => []
def SrcK.val : SrcK → Value
  | .l p => .ref p
  | .t p => .ref p
  | .s z u => .str z u
def SrcK.st : SrcK → Addr → Nat → Heap → Prop
  | .l p, it, i, h => h.IsListIter it p i
  | .t p, it, i, h => h.IsTupleIter it p i
  | .s z u, it, i, h => h.IsStrIter it (strIterType z) z u i
section
variable {X : Cx} {pins : List (Addr × Obj)} {σ : L2.St} {H : Hp} {s : Shared} {k : SrcK} {it : Addr}
theorem SrcK.inj (I : Inv X pins σ H s) {xs ys : List V} (h : k.rows X.K H xs) (h' : k.rows X.K H ys) : xs = ys := by
  cases k with
  | l p => exact I.list_inj h h'
  | t p => exact I.tuple_inj h h'
  | s z u => exact (show xs = chV z from h).trans (show ys = chV z from h').symm
theorem SrcK.obj {i : Nat} {h : Heap} (a : k.st it i h) : ∃ o, h.get? it = some o ∧ ∀ v, o.data ≠ .cell v := by
  cases k with
  | l p => obtain ⟨o, e, _, d⟩ := (show h.IsListIter it p i from a); exact ⟨o, e, fun v q => by rw [d] at q; cases q⟩
  | t p => obtain ⟨o, e, _, d⟩ := (show h.IsTupleIter it p i from a); exact ⟨o, e, fun v q => by rw [d] at q; cases q⟩
  | s z u => obtain ⟨o, e, _, d⟩ := (show h.IsStrIter it (strIterType z) z u i from a); exact ⟨o, e, fun v q => by rw [d] at q; cases q⟩
theorem SrcK.keep {i : Nat} {h h' : Heap} (a : k.st it i h) (e : ∀ o, h.get? it = some o → h'.get? it = some o) : k.st it i h' := by
  cases k with
  | l p => obtain ⟨o, q, r⟩ := (show h.IsListIter it p i from a); exact ⟨o, e o q, r⟩
  | t p => obtain ⟨o, q, r⟩ := (show h.IsTupleIter it p i from a); exact ⟨o, e o q, r⟩
  | s z u => obtain ⟨o, q, r⟩ := (show h.IsStrIter it (strIterType z) z u i from a); exact ⟨o, e o q, r⟩
theorem SrcK.low (I : Inv X pins σ H s) {vs : List V} (h : k.rows X.K H vs) : ∀ b ∈ k.fp, b < s.heap.objs.size := by
  intro b hb
  cases k with
  | l p =>
    obtain ⟨its, _, q, _⟩ := I.list h
    have e : b = p := by simpa [SrcK.fp] using hb
    rw [e]; exact q.lt
  | t p =>
    obtain ⟨its, _, ⟨o, q, _⟩, _⟩ := I.tuple h
    have e : b = p := by simpa [SrcK.fp] using hb
    rw [e]; exact Heap.lt_size q
  | s z u => simp [SrcK.fp] at hb
theorem SrcK.draws (I : Inv X pins σ H s) {A : Around} (hh : A.handled = none) (hne : it ∉ k.fp) {vs : List V} (h : k.rows X.K H vs) :
    ∃ P St, Draws X.prog X.w A it (it :: k.fp) vs.length P St ∧ (∀ i, k.st it i s.heap → St i s.heap) ∧ (∀ i g, St i g → k.st it i g) ∧ ∀ i u, P i u → ∃ v, vs[i]? = some v ∧ RelV v u := by
  cases k with
  | l p =>
    obtain ⟨its, r, q, _⟩ := I.list h
    have ne : p ≠ it := fun e => hne (by simp [SrcK.fp, e])
    have D := Draws.list (prog := X.prog) (w := X.w) hh it p ne its.toArray
    rw [show its.toArray.size = vs.length by simp [r.length]] at D
    refine ⟨_, _, D, fun i a => ⟨a, q.isList⟩, fun i g a => a.1, fun i u a => ?_⟩
    have a : its[i]? = some u := by simpa using a
    have hi : i < vs.length := by rw [r.length]; exact (List.getElem?_eq_some_iff.mp a).1
    obtain ⟨u', e1, e2⟩ := r.get (List.getElem?_eq_getElem hi)
    rw [a] at e1
    cases e1
    exact ⟨_, List.getElem?_eq_getElem hi, e2⟩
  | t p =>
    obtain ⟨its, r, q, _⟩ := I.tuple h
    have ne : p ≠ it := fun e => hne (by simp [SrcK.fp, e])
    have D := Draws.tuple (prog := X.prog) (w := X.w) hh it p ne its.toArray
    rw [show its.toArray.size = vs.length by simp [r.length]] at D
    refine ⟨_, _, D, fun i a => ⟨a, q⟩, fun i g a => a.1, fun i u a => ?_⟩
    have a : its[i]? = some u := by simpa using a
    have hi : i < vs.length := by rw [r.length]; exact (List.getElem?_eq_some_iff.mp a).1
    obtain ⟨u', e1, e2⟩ := r.get (List.getElem?_eq_getElem hi)
    rw [a] at e1
    cases e1
    exact ⟨_, List.getElem?_eq_getElem hi, e2⟩
  | s z u =>
    have h : vs = chV z := h
    subst h
    have D := Draws.text (prog := X.prog) (w := X.w) hh it z u
    rw [show z.cps.size = (chV z).length by simp [chV]] at D
    refine ⟨_, _, D, fun i a => a, fun i g a => a, fun i w a => ?_⟩
    obtain ⟨c, t, e1, e2⟩ := a
    refine ⟨.str ⟨#[c]⟩, ?_, ⟨t, e2⟩⟩
    unfold chV
    rw [List.getElem?_map, Array.getElem?_toList, e1]
    rfl
theorem SrcK.begins (I : Inv X pins σ H s) {vs : List V} (h : k.rows X.K H vs) : ∃ o G, Begins k.val o G ∧ G s.heap ∧ ∀ it g, g.get? it = some o → k.st it 0 g := by
  cases k with
  | l p =>
    obtain ⟨its, r, q, _⟩ := I.list h
    exact ⟨_, _, begins_list p its.toArray, q.isList, fun it g e => ⟨_, e, rfl, rfl⟩⟩
  | t p =>
    obtain ⟨its, r, q, _⟩ := I.tuple h
    exact ⟨_, _, begins_tuple p its.toArray, q, fun it g e => ⟨_, e, rfl, rfl⟩⟩
  | s z u => exact ⟨_, _, begins_text z u, trivial, fun it g e => ⟨_, e, rfl, rfl⟩⟩
end
/-- pairs, as they come -/
def ItP (K : PySem.W.Frag) (k1 k2 : SrcK) : It :=
  ⟨fun i H => ∃ xs ys : List V, k1.rows K H xs ∧ k2.rows K H ys ∧ i < xs.length ∧ i < ys.length,
    fun i H v H' => ∃ T x y, v = .ref T ∧ H T = none ∧ H' = upd H T (.tup [x, y]) ∧ (∀ xs, k1.rows K H xs → xs[i]? = some x) ∧ ∀ ys, k2.rows K H ys → ys[i]? = some y,
    fun i H => ∃ xs ys : List V, k1.rows K H xs ∧ k2.rows K H ys ∧ i = min xs.length ys.length⟩
theorem turnP {P : Program} {w : World} {K : PySem.W.Frag} {elts : List Expr} {kk : Nat} {tpos : Pos} {k1 k2 : SrcK} {z TI TO i1 i2 : Addr} (S : ZipSep2 z TI TO i1 i2 (i1 :: k1.fp) (i2 :: k2.fp)) (n1 : i1 ∉ k1.fp) (n2 : i2 ∉ k2.fp) :
    Turn P w K (.Tuple elts kk tpos) (ItP K k1 k2) [z, TI, TO, i1, i2] z (fun i h => IsZip h z TI TO .none ∧ IsTupOf2 h TI (.ref i1) (.ref i2) ∧ (∃ a b, IsTupOf2 h TO a b) ∧ k1.st i1 i h ∧ k2.st i2 i h) where
  mem := by simp
  obj := fun i h ⟨hz, hI, ⟨a, b, hO⟩, q1, q2⟩ c hc => by
    simp only [List.mem_cons, List.not_mem_nil, or_false] at hc
    rcases hc with rfl | rfl | rfl | rfl | rfl
    · exact ⟨_, hz, nofun⟩
    · exact ⟨_, hI, nofun⟩
    · exact ⟨_, hO, nofun⟩
    · exact SrcK.obj q1
    · exact SrcK.obj q2
  keep := fun i h h' ⟨hz, hI, ⟨a, b, hO⟩, q1, q2⟩ e =>
    ⟨e z (by simp) _ hz, e TI (by simp) _ hI, ⟨a, b, e TO (by simp) _ hO⟩, SrcK.keep q1 (e i1 (by simp)), SrcK.keep q2 (e i2 (by simp))⟩
  item := by
    intro X e1 e2 e3 hc i pins s σ H E I hf st ⟨xs, ys, r1, r2, l1, l2⟩
    subst e1 e2 e3
    have st' := st
    obtain ⟨hz, hI, hO, q1, q2⟩ := st
    have hd : X.A.in1.handled = none := I.ok.hd hc
    obtain ⟨P1, S1, D1, a1, b1, c1⟩ := SrcK.draws I hd n1 r1
    obtain ⟨P2, S2, D2, a2, b2, c2⟩ := SrcK.draws I hd n2 r2
    have W := GoesN.zip2 (elts := elts) (x1 := kk) (pos := tpos) S D1 D2
    refine W.goes i s _ E (by omega) ⟨hz, hI, hO, a1 i q1, a2 i q2⟩ fun v h' tk ⟨T, x, y, ev, hT, p1, p2, hq⟩ ⟨hz', hI', hO', s1, s2⟩ hk _ => ?_
    obtain ⟨vx, ex, rx⟩ := c1 i x p1
    obtain ⟨vy, ey, ry⟩ := c2 i y p2
    subst ev
    have new : ObjOk X.prog X.w (upd H T (.tup [vx, vy])) h' T (.tup [vx, vy]) := ⟨by show 2 ≤ sizeLine; rw [sizeLine_eq]; decide, [x, y], .cons rx (.cons ry .nil), hq⟩
    have I1 := I.turnedNew (t' := tk) (ch := [z, TI, TO, i1, i2]) (fun b o hb e => hk b o (fun q => hb (by
      simp only [List.mem_cons, List.not_mem_nil, or_false] at q ⊢
      rcases q with q | q | q | q
      · exact .inl q
      · exact .inr (.inr (.inl q))
      · exact .inr (.inr (.inr (.inl q)))
      · exact .inr (.inr (.inr (.inr q))))) e) hf hT new
    refine ⟨.ref T, _, I1, rfl, ⟨T, vx, vy, rfl, I.hok.fresh hT, rfl, fun l hl => by rw [SrcK.inj I hl r1]; exact ex, fun l hl => by rw [SrcK.inj I hl r2]; exact ey⟩, ⟨hz', hI', hO', b1 _ _ s1, b2 _ _ s2⟩, fun c hm => ?_⟩
    have ne : c ≠ T := by
      have lt : c < s.heap.objs.size := by
        simp only [List.mem_cons, List.not_mem_nil, or_false] at hm
        obtain ⟨a, b, hO⟩ := hO
        rcases hm with rfl | rfl | rfl | rfl | rfl
        · exact Heap.lt_size hz
        · exact Heap.lt_size hI
        · exact Heap.lt_size hO
        · obtain ⟨_, e, _⟩ := SrcK.obj q1; exact Heap.lt_size e
        · obtain ⟨_, e, _⟩ := SrcK.obj q2; exact Heap.lt_size e
      exact Nat.ne_of_lt (Nat.lt_of_lt_of_le lt hT)
    rw [upd_ne ne]
    exact (hf c hm).1
  done := by
    intro X e1 e2 e3 hc i pins s σ H E I hf st ⟨xs, ys, r1, r2, hi⟩
    subst e1 e2 e3 hi
    obtain ⟨hz, hI, hO, q1, q2⟩ := st
    have hd : X.A.in1.handled = none := I.ok.hd hc
    obtain ⟨P1, S1, D1, a1, b1, c1⟩ := SrcK.draws I hd n1 r1
    obtain ⟨P2, S2, D2, a2, b2, c2⟩ := SrcK.draws I hd n2 r2
    have W := GoesN.zip2 (elts := elts) (x1 := kk) (pos := tpos) S D1 D2
    exact W.stops s _ E ⟨hz, hI, hO, a1 _ q1, a2 _ q2⟩ fun h' tk hk _ => I.turnedL (t' := tk) (ch := [z, TI, TO, i1, i2]) (fun b o hb e => hk b o (fun q => hb (by
      simp only [List.mem_cons, List.not_mem_nil, or_false] at q ⊢
      rcases q with q | q | q | q
      · exact .inl q
      · exact .inr (.inr (.inl q))
      · exact .inr (.inr (.inr (.inl q)))
      · exact .inr (.inr (.inr (.inr q))))) e) hf
  self := fun A i s Q E st h => wpAny_pyIter_zip st.1 h
/-- what a value is, whatever its token -/
def SrcF (K : PySem.W.Frag) (H : Hp) (v : V) (k : Tok → SrcK) : Prop := (∃ p, v = .ref p ∧ k = fun _ => .l p) ∨ (∃ p, v = .ref p ∧ k = fun _ => .t p) ∨ ∃ z, v = .str z ∧ k = fun u => .s z u
theorem SrcF.val {K : PySem.W.Frag} {H : Hp} {v : V} {k : Tok → SrcK} (h : SrcF K H v k) {u : Value} (r : RelV v u) : ∃ t, (k t).val = u := by
  rcases h with ⟨p, rfl, rfl⟩ | ⟨p, rfl, rfl⟩ | ⟨z, rfl, rfl⟩
  · exact ⟨0, (show u = Value.ref p from r).symm⟩
  · exact ⟨0, (show u = Value.ref p from r).symm⟩
  · obtain ⟨t, e⟩ := (show ∃ t, u = Value.str z t from r); exact ⟨t, e.symm⟩
def iZipG (K : PySem.W.Frag) (ta : TA) : TI := fun σ H R => ta σ H fun vs H1 => ∃ v1 v2 k1 k2 xs ys, vs = [v1, v2] ∧ SrcF K H1 v1 k1 ∧ SrcF K H1 v2 k2 ∧ (∀ t, (k1 t).rows K H1 xs) ∧ (∀ t, (k2 t).rows K H1 ys) ∧ ∀ t u, R (ItP K (k1 t) (k2 u)) H1
theorem pi_zipG {X : Cx} {e e2 : Expr} {ta : TA} {p pos tpos : Pos} {elts : List Expr} {kk : Nat} (hg : Gl X "zip") (hm : X.mg "zip" = none) (ha : PA X [e, e2] ta)
    (hs : starEach [e, e2] X.env = (false, eval e X.env) :: starEach [e2] X.env := by rfl) (hpl : (backTo pos (starEach [e2] X.env)).any (·.1) = false := by rfl) :
    PI X (.Tuple elts kk tpos) (.Call (.Name "zip" p) [e, e2] [] pos) (iZipG X.K ta) := by
  refine ⟨fun pins s σ H R I h => ?_⟩
  refine Call_ (ld_blt I hg hm boot_zip (callWith_type1 (thn (ha.run pos pins s σ H _ I h) fun us s1 ⟨vs, H1, I1, r1, q1⟩ => ?_) hs hpl))
  obtain ⟨v1, v2, k1, k2, xs, ys, rfl, f1, f2, w1, w2, hR⟩ := q1
  cases r1 with
  | cons r rr =>
  cases rr with
  | cons r' rr =>
  cases rr
  obtain ⟨t1, rfl⟩ := f1.val r
  obtain ⟨t2, rfl⟩ := f2.val r'
  obtain ⟨o1, G1, B1, g1, z1⟩ := SrcK.begins I1 (w1 t1)
  obtain ⟨o2, G2, B2, g2, z2⟩ := SrcK.begins I1 (w2 t2)
  have lo1 := SrcK.low I1 (w1 t1)
  have lo2 := SrcK.low I1 (w2 t2)
  refine zip_begins2 B1 B2 g1 g2 fun h' hz hI hO h1 h2 hsz hk => wpAny_pyIter_zip hz ?_
  have I2 : Inv X pins σ H1 { s1 with heap := h' } := I1.kept (t' := s1.toks) hk
  refine ⟨s1.heap.objs.size + 4, [s1.heap.objs.size + 4, s1.heap.objs.size + 2, s1.heap.objs.size + 3, s1.heap.objs.size, s1.heap.objs.size + 1], _, _, H1, rfl, I2, turnP (zip_sep2 lo1 lo2) (fun q => Nat.lt_irrefl _ (lo1 _ q)) (fun q => Nat.lt_irrefl _ (Nat.lt_of_succ_lt (lo2 _ q))), ⟨hz, hI, ⟨_, _, hO⟩, z1 _ _ h1, z2 _ _ h2⟩, fun c hc => ?_, hR t1 t2⟩
  have hle : s1.heap.objs.size ≤ c := by
    simp only [List.mem_cons, List.not_mem_nil, or_false] at hc
    rcases hc with rfl | rfl | rfl | rfl | rfl
    · exact Nat.le_add_right _ 4
    · exact Nat.le_add_right _ 2
    · exact Nat.le_add_right _ 3
    · exact Nat.le_refl _
    · exact Nat.le_add_right _ 1
  exact I1.fpOk hle (I1.hok.fresh hle)
theorem zipD_len : ∀ {xs ys : List D}, (zipD xs ys).length = min xs.length ys.length
  | [], ys => by simp [zipD]
  | x :: xs, [] => by simp [zipD]
  | x :: xs, y :: ys => by simp only [zipD, List.length_cons, zipD_len]; omega
theorem zipD_get : ∀ {xs ys : List D} {i : Nat} {x y : D}, xs[i]? = some x → ys[i]? = some y → (zipD xs ys)[i]? = some (.tup [x, y])
  | [], ys, i, x, y, h, _ => by simp at h
  | a :: xs, [], i, x, y, _, h => by simp at h
  | a :: xs, b :: ys, 0, x, y, h, h' => by simp at h h'; subst h h'; rfl
  | a :: xs, b :: ys, i + 1, x, y, h, h' => by
    simp only [zipD, List.getElem?_cons_succ] at h h' ⊢
    exact zipD_get h h'
/-- what a row is, from here on -/
theorem kindOf {K : PySem.W.Frag} {cl : Str → Addr} {d : D} {v : V} {b0 : List Addr} {H0 : Hp} {s0 : Sto} (S0 : StR K cl b0 s0 H0) (r : Rp K cl b0 H0 d v) {xs0 : List D} (q0 : rowOf s0 d = some xs0) :
    ∃ k, SrcF K H0 v k ∧ ∀ bs s H xs, Gr b0 H0 bs H → StR K cl bs s H → rowOf s d = some xs → ∃ vs, (∀ t, (k t).rows K H vs) ∧ RpL K cl bs H xs vs := by
  by_cases ns : ∃ z, d = .str z
  · obtain ⟨z, rfl⟩ := ns
    refine ⟨fun u => .s z u, .inr (.inr ⟨z, r.str_inv, rfl⟩), fun bs s H xs g S q => ?_⟩
    have q : (if z.length ≤ big then some (chars z) else none) = some xs := q
    by_cases c : z.length ≤ big
    · rw [if_pos c] at q
      cases q
      exact ⟨_, fun _ => rfl, chars_ok z⟩
    · rw [if_neg c] at q; cases q
  · have ne : ∀ z, d ≠ .str z := fun z e => ns ⟨z, e⟩
    rw [row_seq ne] at q0
    obtain ⟨p, vs0, ev, _, _⟩ := S0.items q0 r
    by_cases nt : ∃ ds, d = .tup ds
    · obtain ⟨ds, rfl⟩ := nt
      refine ⟨fun _ => .t p, .inr (.inl ⟨p, ev, rfl⟩), fun bs s H xs g S q => ?_⟩
      obtain ⟨vs, h1, h2⟩ := seqs_t (cl := cl) r ev bs s H xs g S q
      exact ⟨vs, fun _ => h1, h2⟩
    · refine ⟨fun _ => .l p, .inl ⟨p, ev, rfl⟩, fun bs s H xs g S q => ?_⟩
      rw [row_seq ne] at q
      obtain ⟨vs, h1, h2⟩ := seqs_l (cl := cl) r ev (fun ds e => nt ⟨ds, e⟩) bs s H xs g S q
      exact ⟨vs, fun _ => h1, h2⟩
theorem i_zip {X : Cx} {cl : Str → Addr} {W : WX} {a b : Expr} {ca cb : CE} {p pos tpos : Pos} {elts : List Expr} {kk : Nat} (hg : Gl X "zip") (hm : X.mg "zip" = none) (ha : SE X cl W a ca) (hb : SE X cl W b cb)
    (h1 : starEach [a, b] X.env = (false, eval a X.env) :: starEach [b] X.env := by rfl) (h2 : starEach [b] X.env = (false, eval b X.env) :: starEach [] X.env := by rfl) (hpl : (backTo pos (starEach [b] X.env)).any (·.1) = false := by rfl) :
    SI X cl W (.Tuple elts kk tpos) (.Call (.Name "zip" p) [a, b] [] pos) (iZip ca cb) := by
  refine PI.imp (pi_zipG hg hm (pa_cons ha (pa_cons hb pa_nil h2) h1) h1 hpl) fun σ H R ⟨bs, s, e, S, N, h⟩ => ?_
  refine ⟨bs, s, e, S, N, (Run.bnd h).imp fun x b1 t1 H1 g1 S1 k1 v r1 => ⟨b1, t1, e, S1, N.mono g1, (Run.bnd k1).imp fun y b2 t2 H2 g2 S2 k2 w r2 => ?_⟩⟩
  have r1 := r1.mono g2
  cases q1 : rowOf t2 x with
  | none => exact (Run.of_no k2 (by simp only [q1])).elim
  | some xs =>
  cases q2 : rowOf t2 y with
  | none => exact (Run.of_no k2 (by simp only [q1, q2])).elim
  | some ys =>
  have fin := Run.of_ok k2 (a := .zip x y) (t := t2) (by simp only [q1, q2]) b2 H2 (Gr.refl _ _) S2
  obtain ⟨f1, sf1, m1⟩ := kindOf S2 r1 q1
  obtain ⟨f2, sf2, m2⟩ := kindOf S2 r2 q2
  obtain ⟨vs, w1, _⟩ := m1 b2 t2 H2 xs (Gr.refl _ _) S2 q1
  obtain ⟨us, w2, _⟩ := m2 b2 t2 H2 ys (Gr.refl _ _) S2 q2
  refine ⟨v, w, f1, f2, vs, us, rfl, sf1, sf2, w1, w2, fun tk uk => fin _ ?_⟩
  intro bs s H all g S q i
  have q : (match rowOf s x, rowOf s y with | some xs, some ys => some (zipD xs ys) | _, _ => none) = some all := q
  cases z1 : rowOf s x with
  | none => rw [z1] at q; cases q
  | some xs2 =>
  cases z2 : rowOf s y with
  | none => rw [z1, z2] at q; cases q
  | some ys2 =>
  rw [z1, z2] at q
  cases q
  obtain ⟨vs2, y1, y2⟩ := m1 bs s H xs2 g S z1
  obtain ⟨us2, y3, y4⟩ := m2 bs s H ys2 g S z2
  rw [zipD_len]
  have l1 := y2.length
  have l2 := y4.length
  refine ⟨fun hi => ⟨⟨vs2, us2, y1 _, y3 _, by omega, by omega⟩, fun X' H' yy => ?_⟩, fun hi => ⟨vs2, us2, y1 _, y3 _, by omega⟩⟩
  obtain ⟨T, xv, yv, rfl, hT, rfl, e1, e2⟩ := yy
  obtain ⟨dx, o1, o2⟩ := y2.get' (e1 _ (y1 _))
  obtain ⟨dy, o3, o4⟩ := y4.get' (e2 _ (y3 _))
  exact ⟨gr_new hT, S.new hT, _, zipD_get o1 o3, Rp.newT S hT (.cons o2 (.cons o4 .nil))⟩
end G

set_option Elab.async false
set_option linter.all false
set_option maxRecDepth 100000
set_option maxHeartbeats 4000000
/-! G, soundness: for, while, comprehensions, list methods, defs. -/
namespace G
open PySem L2 PySem.Spec PyProof.Rows
section
variable {X : Cx} {cl : Str → Addr} {W : WX} {tg it e : Expr} {ci : CS'} {tgp : Tg} {cb : CS} {ct : CT} {pos : Pos}
theorem drop_cases {α : Type} (l : List α) (i : Nat) (h : i ≤ l.length) : (l.drop i = [] ∧ i = l.length) ∨ ∃ x, l.drop i = x :: l.drop (i + 1) ∧ l[i]? = some x ∧ i < l.length := by
  by_cases q : i < l.length
  · exact .inr ⟨l[i], List.drop_eq_getElem_cons q, List.getElem?_eq_getElem q, q⟩
  · have : i = l.length := by omega
    exact .inl ⟨by rw [this]; simp, this⟩
theorem ss_for {body : List Stmt} (hp : PassesOwn (model X.prog X.w) X.A X.env X.xe) (hc : X.calm = true) (hi : SI X cl W tg it ci) (hg : SG X cl tg tgp) (hb : SSs X cl W body cb)
    (hs : ∀ x, foldedSetIterable it X.env x = pure x := by intro _; rfl) : SS X cl W (.For tg it body [] pos) (sFor ci tgp cb) := PS.imp (ps_for hp hc hi hg hb hs) fun E σ H ⟨bs, s, e, S, N, h⟩ => by
  refine ⟨bs, s, e, S, N, (Run.lft N h).imp fun w b1 t1 H1 g1 S1 k J hJ => ?_⟩
  cases q : w.items t1 with
  | none => exact (Run.of_no k (by simp only [q])).elim
  | some all =>
    have k : Run X.K cl F0 b1 t1 H1 (forL w all tgp cb all e) (FlP X.K cl W E) := by
      unfold Run at k ⊢
      simp only [q] at k
      exact k
    refine ⟨fun i m σ H => m = all.length - i ∧ i ≤ all.length ∧ ∃ bs s e, Gr b1 H1 bs H ∧ StR X.K cl bs s H ∧ EnR X.K cl bs H e σ ∧ Run X.K cl F0 bs s H (forL w all tgp cb (all.drop i) e) (FlP X.K cl W E),
      ⟨_, rfl, Nat.zero_le _, b1, t1, e, Gr.refl _ _, S1, N.mono g1, by simpa using k⟩, ?_⟩
    rintro i m σ2 H2 ⟨rfl, hi, b2, t2, e2, g2, S2, N2, k2⟩
    rcases drop_cases all i hi with ⟨z, hz⟩ | ⟨x, z, hx, hlt⟩
    · rw [z] at k2
      by_cases c : w.items t2 = some all
      · have k3 := Run.of_ok k2 (a := Fl.nx e2) (t := t2) (by unfold forL; rw [if_pos c]) b2 H2 (Gr.refl _ _) S2
        exact .inl ⟨(hJ b2 t2 H2 all g2 S2 c i).2 (by omega), k3 σ2 N2⟩
      · exact (Run.of_no k2 (by unfold forL; rw [if_neg c])).elim
    · rw [z] at k2
      by_cases c : w.items t2 = some all
      · obtain ⟨j1, j2⟩ := (hJ b2 t2 H2 all g2 S2 c i).1 hlt
        refine .inr ⟨j1, fun σ' H' => all.length - (i + 1) = all.length - (i + 1) ∧ i + 1 ≤ all.length ∧ ∃ bs s e, Gr b1 H1 bs H' ∧ StR X.K cl bs s H' ∧ EnR X.K cl bs H' e σ' ∧ Run X.K cl F0 bs s H' (forL w all tgp cb (all.drop (i + 1)) e) (FlP X.K cl W E),
          fun σ' H' n => ⟨_, by omega, n⟩, fun v H3 y => ?_⟩
        obtain ⟨g3, S3, d, hd, r⟩ := j2 v H3 y
        rw [hx] at hd
        cases hd
        cases eb : bindT tgp x e2 with
        | none => exact (Run.of_no k2 (by unfold forL; rw [if_pos c]; simp only [eb])).elim
        | some e3 =>
          refine ⟨b2, t2, e2, x, e3, S3, N2.mono g3, r, eb, fun σ4 N4 => ⟨b2, t2, e3, S3, N4, ?_⟩⟩
          have k3 : Run X.K cl F0 b2 t2 H3 (bnd (cb e3) (fun fl => match fl with
            | .nx e2 => forL w all tgp cb (all.drop (i + 1)) e2
            | .ct e2 => forL w all tgp cb (all.drop (i + 1)) e2
            | .bk e2 => ret (.nx e2)
            | .rt d => ret (.rt d)
            | .ex c fs e2 => ret (.ex c fs e2))) (FlP X.K cl W E) := by
            have k3 := Run.up g3 k2
            unfold Run at k3 ⊢
            unfold forL at k3
            rw [if_pos c] at k3
            simp only [eb] at k3
            exact k3
          refine (Run.bnd k3).imp fun fl b5 t5 H5 g5 S5 k5 => ?_
          cases fl with
          | nx e' => exact fun σ' N' => ⟨rfl, hlt, b5, t5, e', (g2.trans g3).trans g5, S5, N', k5⟩
          | ct e' => exact fun σ' N' => ⟨rfl, hlt, b5, t5, e', (g2.trans g3).trans g5, S5, N', k5⟩
          | bk e' => exact fun σ' N' => (Run.now S5 (W := F0) (a := Fl.nx e') (P := FlP X.K cl W E) k5) σ' N'
          | rt d => exact (Run.now S5 (W := F0) (a := Fl.rt d) (P := FlP X.K cl W E) k5)
          | ex c fs e' => exact (Run.now S5 (W := F0) (a := Fl.ex c fs e') (P := FlP X.K cl W E) k5)
      · exact (Run.of_no k2 (by unfold forL; rw [if_neg c])).elim
theorem ss_while {body : List Stmt} (hp : PassesOwn (model X.prog X.w) X.A X.env X.xe) (hc : ST X cl W e ct) (hb : SSs X cl W body cb) : SS X cl W (.While e body [] pos) (sWhile ct cb) := PS.imp (ps_while hp hc hb) fun E σ H ⟨bs, s, e, S, N, h⟩ => by
  refine ⟨fun m σ H => ∃ bs s e, StR X.K cl bs s H ∧ EnR X.K cl bs H e σ ∧ Run X.K cl F0 bs s H (whileN ct cb m e) (FlP X.K cl W E), ⟨turnsMost, bs, s, e, S, N, h⟩, ?_⟩
  rintro m σ1 H1 ⟨b1, t1, e1, S1, N1, k1⟩
  cases m with
  | zero => exact k1.elim
  | succ n =>
    refine ⟨b1, t1, e1, S1, N1, (Run.lft N1 k1).imp fun c b2 t2 H2 g2 S2 k2 => ?_⟩
    have N2 := N1.mono g2
    cases c with
    | false =>
      show E.nx σ1 H2
      exact (Run.now S2 (W := F0) (a := Fl.nx e1) (P := FlP X.K cl W E) k2) σ1 N2
    | true =>
      refine ⟨fun σ' H' => ∃ bs s e, StR X.K cl bs s H' ∧ EnR X.K cl bs H' e σ' ∧ Run X.K cl F0 bs s H' (whileN ct cb n e) (FlP X.K cl W E), fun σ' H' q => ⟨n, Nat.lt_succ_self n, q⟩, b2, t2, e1, S2, N2, (Run.bnd k2).imp fun fl b5 t5 H5 g5 S5 k5 => ?_⟩
      cases fl with
      | nx e' => exact fun σ' N' => ⟨b5, t5, e', S5, N', k5⟩
      | ct e' => exact fun σ' N' => ⟨b5, t5, e', S5, N', k5⟩
      | bk e' => exact fun σ' N' => (Run.now S5 (W := F0) (a := Fl.nx e') (P := FlP X.K cl W E) k5) σ' N'
      | rt d => exact (Run.now S5 (W := F0) (a := Fl.rt d) (P := FlP X.K cl W E) k5)
      | ex c fs e' => exact (Run.now S5 (W := F0) (a := Fl.ex c fs e') (P := FlP X.K cl W E) k5)

/-! ### comprehensions -/
theorem Run.pur {K : PySem.W.Frag} {W : Value → Option Addr → Hp → Prop} {α : Type} {bs : List Addr} {s : Sto} {H : Hp} {m : Cm α} {P : α → List Addr → Sto → Hp → Prop} (h : Run K cl W bs s H (pur m) P) : Run K cl F0 bs s H m P := by
  unfold Run G.pur at *
  cases q : m s with
  | ok a t => rw [q] at h; exact h
  | ex c fs t => rw [q] at h; exact h.elim
  | no => rw [q] at h; exact h
/-- a run from the heap without D, seen from the heap with it -/
theorem Run.besides {K : PySem.W.Frag} {α : Type} {bs : List Addr} {s : Sto} {H : Hp} {m : Cm α} {P : α → List Addr → Sto → Hp → Prop} {p : Addr} {xs : List V} (hp : H p = some (.lst xs)) (n : p ∉ bs)
    (h : Run K cl F0 bs s (rm p H) m P) : Run K cl F0 bs s H m (fun a bs' t H' => H' p = some (.lst xs) ∧ p ∉ bs' ∧ P a bs' t (rm p H')) := by
  unfold Run at *
  cases q : m s with
  | ok a t =>
    rw [q] at h
    intro b1 H1 g1 S1
    obtain ⟨k1, k2⟩ := g1.keep p _ hp n
    exact ⟨k1, k2, h b1 (rm p H1) g1.rm (S1.rm k1 k2)⟩
  | ex c fs t =>
    rw [q] at h
    intro b1 H1 u dx g1 S1 X1
    obtain ⟨k1, k2⟩ := g1.keep p _ hp n
    refine h b1 (rm p H1) u dx g1.rm (S1.rm k1 k2) ⟨X1.1, X1.2.1, fun z => ?_⟩
    obtain ⟨a, gs, e1, e2, e3, e4⟩ := X1.2.2 z
    refine ⟨a, gs, e1, e2, ?_, paired_up (fun x y r => ⟨r.1, r.2.upI (im_rm k1)⟩) e4⟩
    rw [rm_ne (fun z => ?_)]
    · exact e3
    · subst z; rw [k1] at e3; cases e3
  | no => rw [q] at h; exact h
theorem wipe_set {σ : L2.St} {i : Nat} {x : Option V} : ∀ {vs : List Nat}, (i ∈ vs → wipe (σ.set i x) vs = wipe σ vs) ∧ (i ∉ vs → wipe (σ.set i x) vs = (wipe σ vs).set i x)
  | [] => ⟨fun h => by simp at h, fun _ => rfl⟩
  | v :: vs => by
    obtain ⟨h1, h2⟩ := @wipe_set σ i x vs
    unfold L2.wipe
    refine ⟨fun h => ?_, fun h => ?_⟩
    · by_cases q : i ∈ vs
      · rw [h1 q]
      · rw [h2 q]
        have e : i = v := by
          rcases List.mem_cons.mp h with e | e
          · exact e
          · exact absurd e q
        subst e
        rw [List.set_set]
    · have n1 : i ≠ v := fun e => h (by rw [e]; exact List.mem_cons_self)
      rw [h2 fun z => h (List.mem_cons_of_mem _ z), List.set_comm _ _ n1]
/-- a comprehension's target: it stores at vs alone -/
def CG (K : PySem.W.Frag) (cl : Str → Addr) (vs : List Nat) (tgp : Tg) (g : TG) : Prop := ∀ bs s e d e' v σ H Q, StR K cl bs s H → EnR K cl bs H e σ → Rp K cl bs H d v → bindT tgp d e = some e' → (∀ σ', EnR K cl bs H e' σ' → wipe σ' vs = wipe σ vs → Q σ' H) → g v σ H Q
theorem cg_name {K : PySem.W.Frag} {vs : List Nat} {i : Nat} (h : i ∈ vs) : CG K cl vs (.v i) (gName i) := fun bs s e d e' v σ H Q S N r e1 k => by
  cases e1
  exact k _ (N.set i r) (wipe_set.1 h)
theorem stAll_two {e e' : En} {i j : Nat} {ds : List D} (h : stAll e [i, j] ds = some e') : ∃ a b, ds = [a, b] ∧ e' = st (st e i (some a)) j (some b) := by
  cases ds with
  | nil => cases h
  | cons a ds =>
    cases ds with
    | nil => cases h
    | cons b ds =>
      cases ds with
      | nil => cases h; exact ⟨a, b, rfl, rfl⟩
      | cons c ds => cases h
theorem cg_two {K : PySem.W.Frag} {vs : List Nat} {i j : Nat} (h : i ∈ vs) (h' : j ∈ vs) : CG K cl vs (.t [i, j]) (gTup K 2 (gCons (gName i) (gCons (gName j) gNil))) := fun bs s e d e' v σ H Q S N r e1 k => by
  cases d with
  | tup ds =>
    obtain ⟨a, b, rfl, rfl⟩ := stAll_two (show stAll e [i, j] ds = some e' from e1)
    cases r with
    | @tup _ p us q1 q2 =>
      obtain ⟨x, y, rfl, r1, r2⟩ := q2.two
      refine ⟨p, [x, y], rfl, sqT_mono (fun a o e => (hid_some e).2) q1, rfl, x, [y], rfl, y, [], rfl, rfl, ?_⟩
      exact k _ ((N.set i r1).set j r2) (by rw [wipe_set.1 h', wipe_set.1 h])
  | _ => cases e1
theorem upd_eq_of {H : Hp} {p : Addr} {o : HO} (h : H p = some o) : upd (rm p H) p o = H := by
  funext a
  by_cases q : a = p
  · subst q; rw [upd_same, h]
  · rw [upd_ne q, rm_ne q]
theorem upd_rm {H : Hp} {p : Addr} {o : HO} : upd (rm p H) p o = upd H p o := by
  funext a
  by_cases q : a = p
  · subst q; rw [upd_same, upd_same]
  · rw [upd_ne q, upd_ne q, rm_ne q]
theorem bnd_assoc {α β γ : Type} (m : Cm α) (f : α → Cm β) (g : β → Cm γ) : bnd (bnd m f) g = bnd m fun a => bnd (f a) g := by
  funext s
  unfold G.bnd
  cases m s <;> rfl
theorem bnd_at {α β : Type} {m m' : Cm α} {f : α → Cm β} {s : Sto} (h : m s = m' s) : bnd m f s = bnd m' f s := by
  unfold G.bnd
  rw [h]
theorem lcL_cons {w : Src} {all : List D} {tt : CT} {te : CE} {e e' : En} {x : D} {r : List D} {s : Sto} (c : w.items s = some all) (eb : bindT tgp x e = some e') :
    lcL w all tgp tt te e (x :: r) s = bnd (pur (tt e')) (fun b => if b = true then bnd (pur (te e')) (fun y => bnd (lcL w all tgp tt te e r) fun ys => ret (y :: ys)) else lcL w all tgp tt te e r) s := by
  conv => lhs; unfold lcL
  simp only [if_pos c, eb]
theorem bnd_ret {α : Type} (m : Cm α) : bnd m (fun a => ret a) = m := by
  funext s
  unfold G.bnd
  cases m s <;> rfl
theorem tLc_of {K : PySem.W.Frag} {g : TG} {tt : CT} {te : CE} {vs : List Nat} {σ : L2.St} {H : Hp} {Q : VK} (cg : CG K cl vs tgp g) (h : TLof K cl W (cLcA ci tgp vs tt te) σ H Q) :
    tLc (TIof K cl W ci) g (TTof K cl W0 tt) (TEof K cl W0 te) vs σ H Q := by
  obtain ⟨bs, s, e, S, N, h⟩ := h
  refine ⟨bs, s, e, S, N, (Run.bnd h).imp fun w b1 t1 H1 g1 S1 k J hJ p hp => ?_⟩
  cases q : w.items t1 with
  | none => exact (Run.of_no k (by simp only [q])).elim
  | some all =>
    by_cases hb : all.length ≤ big
    rotate_left
    · exact (Run.of_no k (by simp only [q]; rw [if_neg hb])).elim
    have k : Run K cl (fun u dx H' => W u dx σ H') b1 t1 H1 (bnd (lcL w all tgp tt te (wipeE e vs) all) (fun ys => ret ys)) (fun ds bs' _ H' => ∀ p vs, H' p = none → RpL K cl bs' H' ds vs → Q (.ref p) (upd H' p (.lst vs))) := by
      unfold Run at k ⊢
      simp only [q] at k
      rw [if_pos hb] at k
      rw [bnd_ret]
      exact k
    have N1 : EnR K cl b1 H1 (wipeE e vs) (L2.wipe σ vs) := (N.mono g1).wipe vs
    -- the turns
    refine ⟨fun i m H2 => m = all.length - i ∧ i ≤ all.length ∧ ∃ bs s acc accV, H2 p = some (.lst accV) ∧ acc.length ≤ i ∧ p ∉ bs ∧ Gr b1 H1 bs (rm p H2) ∧ StR K cl bs s (rm p H2) ∧ RpL K cl bs (rm p H2) acc accV ∧
        Run K cl (fun u dx H' => W u dx σ H') bs s (rm p H2) (bnd (lcL w all tgp tt te (wipeE e vs) (all.drop i)) (fun ys => ret (acc ++ ys))) (fun ds bs' _ H' => ∀ p vs, H' p = none → RpL K cl bs' H' ds vs → Q (.ref p) (upd H' p (.lst vs))),
      ⟨_, rfl, Nat.zero_le _, b1, t1, [], [], upd_same, Nat.zero_le _, S1.fresh hp, ?_, ?_, .nil, ?_⟩, ?_⟩
    · rw [rm_upd hp]; exact Gr.refl _ _
    · rw [rm_upd hp]; exact S1
    · rw [rm_upd hp]; exact k
    rintro i m H2 ⟨rfl, hi, b2, t2, acc, accV, hD, hal, nD, g2, S2, R2, k2⟩
    have S2' : StR K cl b2 t2 H2 := S2.unrm
    have hH2 : Gr b1 H1 b2 H2 := ⟨g2.pre, (fun a o h n => by
      obtain ⟨h1, h2⟩ := g2.keep a o h n
      refine ⟨?_, h2⟩
      rw [rm_ne (fun z => ?_)] at h1
      · exact h1
      · subst z; rw [rm_same] at h1; cases h1), fun a ob x h => by
      have h1 := g2.fz a ob x h
      rw [rm_ne (fun z => ?_)] at h1
      · exact h1
      · subst z; rw [rm_same] at h1; cases h1⟩
    rcases drop_cases all i hi with ⟨z, hz⟩ | ⟨x, z, hx, hlt⟩
    · rw [z] at k2
      by_cases c : w.items t2 = some all
      · refine .inl ⟨(hJ b2 t2 H2 all hH2 S2' c i).2 (by omega), ?_⟩
        have k3 := Run.of_ok k2 (a := acc ++ []) (t := t2) (by unfold G.bnd lcL; simp only [if_pos c]; rfl) b2 _ (Gr.refl _ _) S2
        rw [List.append_nil] at k3
        have e1 : upd (rm p H2) p (.lst accV) = H2 := upd_eq_of hD
        have k4 := k3 p accV rm_same R2
        rw [e1] at k4
        exact k4
      · exact (Run.of_no k2 (by unfold G.bnd lcL; simp only [if_neg c])).elim
    · rw [z] at k2
      by_cases c : w.items t2 = some all
      · obtain ⟨j1, j2⟩ := (hJ b2 t2 H2 all hH2 S2' c i).1 hlt
        refine .inr ⟨j1, fun H' => all.length - (i + 1) = all.length - (i + 1) ∧ i + 1 ≤ all.length ∧ ∃ bs s acc accV, H' p = some (.lst accV) ∧ acc.length ≤ i + 1 ∧ p ∉ bs ∧ Gr b1 H1 bs (rm p H') ∧ StR K cl bs s (rm p H') ∧ RpL K cl bs (rm p H') acc accV ∧
          Run K cl (fun u dx H' => W u dx σ H') bs s (rm p H') (bnd (lcL w all tgp tt te (wipeE e vs) (all.drop (i + 1))) (fun ys => ret (acc ++ ys))) (fun ds bs' _ H' => ∀ p vs, H' p = none → RpL K cl bs' H' ds vs → Q (.ref p) (upd H' p (.lst vs))), fun H' n => ⟨_, by omega, n⟩, fun v H3 y => ?_⟩
        obtain ⟨g3, S3, d, hd, r⟩ := j2 v H3 y
        rw [hx] at hd
        cases hd
        obtain ⟨hD3, nD3⟩ := g3.keep p _ hD nD
        cases eb : bindT tgp x (wipeE e vs) with
        | none => exact (Run.of_no k2 (by unfold G.bnd lcL; simp only [if_pos c, eb])).elim
        | some e3 =>
          have N3 : EnR K cl b2 H3 (wipeE e vs) (L2.wipe σ vs) := (N1.mono hH2).mono g3
          refine cg b2 t2 (wipeE e vs) x e3 v _ H3 _ S3 N3 r eb fun σ4 N4 hw => ?_
          have ww : wipe (wipe σ vs) vs = wipe σ vs := by
            have : ∀ (us : List Nat) (σ' : L2.St), (∀ i ∈ us, σ'[i]? = some none ∨ σ'.length ≤ i) → wipe σ' us = σ' := by
              intro us
              induction us with
              | nil => intro σ' _; rfl
              | cons u us ih =>
                intro σ' h
                unfold L2.wipe
                rw [ih σ' fun i hi => h i (List.mem_cons_of_mem _ hi)]
                apply List.ext_getElem?
                intro n
                by_cases hn : n = u
                · subst hn
                  rcases h n List.mem_cons_self with h | h
                  · rw [List.getElem?_set_self (List.getElem?_eq_some_iff.mp h).1, h]
                  · rw [List.getElem?_eq_none (by simpa using h), List.getElem?_eq_none h]
                · rw [List.getElem?_set_ne (Ne.symm hn)]
            apply this
            intro i hi
            have : ∀ (us : List Nat), i ∈ us → (wipe σ us)[i]? = some none ∨ (wipe σ us).length ≤ i := by
              intro us
              induction us with
              | nil => intro h; simp at h
              | cons u us ih =>
                intro h
                unfold L2.wipe
                by_cases hu : u = i
                · subst hu
                  by_cases hl : u < (wipe σ us).length
                  · exact .inl (List.getElem?_set_self hl)
                  · exact .inr (by rw [List.length_set]; omega)
                · rw [List.getElem?_set_ne hu, List.length_set]
                  refine ih ?_
                  rcases List.mem_cons.mp h with h | h
                  · exact absurd h.symm hu
                  · exact h
            exact this vs hi
          refine ⟨hw.trans ww, ?_⟩
          -- the test, from the heap without D
          have k3 : Run K cl (fun u dx H' => W u dx σ H') b2 t2 (rm p H3) (bnd (pur (tt e3)) (fun b => bnd (if b = true then bnd (pur (te e3)) (fun y => bnd (lcL w all tgp tt te (wipeE e vs) (all.drop (i + 1))) fun ys => ret (y :: ys)) else lcL w all tgp tt te (wipeE e vs) (all.drop (i + 1))) (fun ys => ret (acc ++ ys)))) (fun ds bs' _ H' => ∀ p vs, H' p = none → RpL K cl bs' H' ds vs → Q (.ref p) (upd H' p (.lst vs))) := by
            have k3 := Run.up g3.rm k2
            have e4 : bnd (lcL w all tgp tt te (wipeE e vs) (x :: all.drop (i + 1))) (fun ys => ret (acc ++ ys)) t2 = bnd (pur (tt e3)) (fun b => bnd (if b = true then bnd (pur (te e3)) (fun y => bnd (lcL w all tgp tt te (wipeE e vs) (all.drop (i + 1))) fun ys => ret (y :: ys)) else lcL w all tgp tt te (wipeE e vs) (all.drop (i + 1))) (fun ys => ret (acc ++ ys))) t2 := by
              rw [bnd_at (lcL_cons c eb), bnd_assoc]
            unfold Run at k3 ⊢
            rw [e4] at k3
            exact k3
          refine ⟨b2, t2, e3, S3, N4, (Run.besides hD3 nD3 (Run.pur (Run.bnd k3))).imp fun b b4 t4 H4 g4 S4 k4 => ?_⟩
          obtain ⟨hD4, nD4, k4⟩ := k4
          have R4 : RpL K cl b4 (rm p H4) acc accV := (R2.mono g3.rm).mono g4.rm
          have G4 : Gr b1 H1 b4 (rm p H4) := (g2.trans g3.rm).trans g4.rm
          cases b with
          | false =>
            have k4' : Run K cl (fun u dx H' => W u dx σ H') b4 t4 (rm p H4) (bnd (lcL w all tgp tt te (wipeE e vs) (all.drop (i + 1))) (fun ys => ret (acc ++ ys))) (fun ds bs' _ H' => ∀ p vs, H' p = none → RpL K cl bs' H' ds vs → Q (.ref p) (upd H' p (.lst vs))) := k4
            exact ⟨rfl, hlt, b4, t4, acc, accV, hD4, by omega, nD4, G4, S4.rm hD4 nD4, R4, k4'⟩
          | true =>
            have k4' : Run K cl (fun u dx H' => W u dx σ H') b4 t4 (rm p H4) (bnd (pur (te e3)) (fun y => bnd (lcL w all tgp tt te (wipeE e vs) (all.drop (i + 1))) (fun ys => ret (acc ++ (y :: ys))))) (fun ds bs' _ H' => ∀ p vs, H' p = none → RpL K cl bs' H' ds vs → Q (.ref p) (upd H' p (.lst vs))) := by
              have e4 : bnd (bnd (pur (te e3)) (fun y => bnd (lcL w all tgp tt te (wipeE e vs) (all.drop (i + 1))) fun ys => ret (y :: ys))) (fun ys => ret (acc ++ ys)) t4 = bnd (pur (te e3)) (fun y => bnd (lcL w all tgp tt te (wipeE e vs) (all.drop (i + 1))) (fun ys => ret (acc ++ (y :: ys)))) t4 := by
                unfold G.bnd
                cases pur (te e3) t4 with
                | ok a t => simp only; cases lcL w all tgp tt te (wipeE e vs) (all.drop (i + 1)) t <;> rfl
                | ex c fs t => rfl
                | no => rfl
              have k4 : Run K cl (fun u dx H' => W u dx σ H') b4 t4 (rm p H4) (bnd (bnd (pur (te e3)) (fun y => bnd (lcL w all tgp tt te (wipeE e vs) (all.drop (i + 1))) fun ys => ret (y :: ys))) (fun ys => ret (acc ++ ys))) (fun ds bs' _ H' => ∀ p vs, H' p = none → RpL K cl bs' H' ds vs → Q (.ref p) (upd H' p (.lst vs))) := k4
              unfold Run at k4 ⊢
              rw [e4] at k4
              exact k4
            refine ⟨b4, t4, e3, S4, N4.mono g4, (Run.besides hD4 nD4 (Run.pur (Run.bnd k4'))).imp fun yd b5 t5 H5 g5 S5 k5 yv ry => ?_⟩
            obtain ⟨hD5, nD5, k5⟩ := k5
            have R5 := R4.mono g5.rm
            refine ⟨accV, hD5, ?_, rfl, hlt, b5, t5, acc ++ [yd], accV ++ [yv], upd_same, ?_, nD5, ?_, ?_, ?_, ?_⟩
            · rw [← R5.length]; exact big_lt (by omega)
            · simp only [List.length_append, List.length_singleton]; omega
            · rw [rm_upd']; exact G4.trans g5.rm
            · rw [rm_upd']; exact S5.rm hD5 nD5
            · rw [rm_upd']; exact R5.append (.cons (ry.upI (im_rm hD5)) .nil)
            · rw [rm_upd']
              simp only [List.append_assoc, List.singleton_append]
              exact k5
      · exact (Run.of_no k2 (by unfold G.bnd lcL; simp only [if_neg c])).elim
theorem s_lc {elt iter : Expr} {ifs : List Expr} {scope : Scope} {own : List (Str × Nat)} {g : TG} {tt : CT} {te : CE} {vs : List Nat} (hc : X.calm = true) (hN : X.N.Nodup) (hi : SI X cl W tg iter ci) (ok : BlkOk X.N X.env.scope scope own) (hv : own.map (·.2) = vs) (cg : CG X.K cl vs tgp g)
    (hg : ∀ (s : Shared) (H : Hp) (C : Addr) (cc : List (Str × Addr)) (fp : List Addr), PG (X.blk s H scope (compEnvC scope cc C X.env) fp) tg g)
    (ht : ∀ (s : Shared) (H : Hp) (C : Addr) (cc : List (Str × Addr)) (fp : List Addr), PTs (X.blk s H scope (compEnvC scope cc C X.env) fp) ifs (TTof X.K cl W0 tt))
    (he : ∀ (s : Shared) (H : Hp) (C : Addr) (cc : List (Str × Addr)) (fp : List Addr), SE (X.blk s H scope (compEnvC scope cc C X.env) fp) cl W0 elt te) (hs : ∀ x, foldedSetIterable iter X.env x = pure x := by intro _; rfl) :
    SE X cl W (.ListComp elt [⟨tg, iter, ifs, 0⟩] scope pos) (cLc ci tgp vs tt te) := by
  subst hv
  exact PE.imp (pe_lc (te := TEof X.K cl W0 te) hc hN hi ok hg ht he hs) fun σ H Q h => tLc_of cg (tNew_of h)
theorem l_lc {elt iter : Expr} {ifs : List Expr} {scope : Scope} {own : List (Str × Nat)} {g : TG} {tt : CT} {te : CE} {vs : List Nat} (hc : X.calm = true) (hN : X.N.Nodup) (hi : SI X cl W tg iter ci) (ok : BlkOk X.N X.env.scope scope own) (hv : own.map (·.2) = vs) (cg : CG X.K cl vs tgp g)
    (hg : ∀ (s : Shared) (H : Hp) (C : Addr) (cc : List (Str × Addr)) (fp : List Addr), PG (X.blk s H scope (compEnvC scope cc C X.env) fp) tg g)
    (ht : ∀ (s : Shared) (H : Hp) (C : Addr) (cc : List (Str × Addr)) (fp : List Addr), PTs (X.blk s H scope (compEnvC scope cc C X.env) fp) ifs (TTof X.K cl W0 tt))
    (he : ∀ (s : Shared) (H : Hp) (C : Addr) (cc : List (Str × Addr)) (fp : List Addr), SE (X.blk s H scope (compEnvC scope cc C X.env) fp) cl W0 elt te) (hs : ∀ x, foldedSetIterable iter X.env x = pure x := by intro _; rfl) :
    SL X cl W (.ListComp elt [⟨tg, iter, ifs, 0⟩] scope pos) (cLcA ci tgp vs tt te) := by
  subst hv
  exact PE.imp (pe_lc (te := TEof X.K cl W0 te) hc hN hi ok hg ht he hs) fun σ H Q h => tLc_of cg h
theorem ts_nil : PTs X [] (TTof X.K cl W tYesD) := ⟨fun pins s σ H Q I ⟨bs, t, e, S, N, h⟩ => pts_nil.run pins s σ H Q I (Run.now S h)⟩
theorem ts_one {c : Expr} (h : ST X cl W c ct) : PTs X [c] (TTof X.K cl W ct) := pts_one h
/-- name = [..] on one line -/
theorem ss_setLc {i : Nat} {y : Str} {py : Pos} {elt iter : Expr} {ifs : List Expr} {scope : Scope} {own : List (Str × Nat)} {spos : Pos} {g : TG} {tt : CT} {te : CE} {vs : List Nat} (hc : X.calm = true) (hN : X.N.Nodup) (hy : X.N[i]? = some y) (hyl : X.env.scope.names.lookup y = some .local)
    (hsw : swapsWith (.ListComp elt [⟨tg, iter, ifs, 0⟩] scope pos) (some (.Name y py)) spos.line X.env = pure true) (hi : SI X cl W tg iter ci) (ok : BlkOk X.N X.env.scope scope own) (hv : own.map (·.2) = vs) (cg : CG X.K cl vs tgp g)
    (hg : ∀ (s : Shared) (H : Hp) (C : Addr) (cc : List (Str × Addr)) (fp : List Addr), PG (X.blk s H scope (compEnvC scope cc C X.env) fp) tg g)
    (ht : ∀ (s : Shared) (H : Hp) (C : Addr) (cc : List (Str × Addr)) (fp : List Addr), PTs (X.blk s H scope (compEnvC scope cc C X.env) fp) ifs (TTof X.K cl W0 tt))
    (he : ∀ (s : Shared) (H : Hp) (C : Addr) (cc : List (Str × Addr)) (fp : List Addr), SE (X.blk s H scope (compEnvC scope cc C X.env) fp) cl W0 elt te) (hs : ∀ x, foldedSetIterable iter X.env x = pure x := by intro _; rfl) :
    SS X cl W (.Assign [.Name y py] (.ListComp elt [⟨tg, iter, ifs, 0⟩] scope pos) spos) (sSet i (cLc ci tgp vs tt te)) := by
  subst hv
  exact PS.imp (ps_setLc (te := TEof X.K cl W0 te) hc hN hy hyl hsw hi ok hg ht he hs) fun E σ H ⟨bs, s, e, S, N, h⟩ => tLc_of cg (tNew_of ⟨bs, s, e, S, N, (Run.lft N h).imp fun d b1 t1 H1 g1 S1 k v r => (Run.now S1 (a := Fl.nx _) (P := FlP X.K cl W E) k) _ ((N.mono g1).set i r)⟩)

/-! ### methods of lists -/
def MeS (K : PySem.W.Frag) (cl : Str → Addr) (f : D → List D → Cm D) (r : V → List V → Hp → VK → Prop) : Prop :=
  ∀ (W : Value → Option Addr → Hp → Prop) bs s H x ds v vs (Q : VK), StR K cl bs s H → Rp K cl bs H x v → RpL K cl bs H ds vs → Run K cl W bs s H (f x ds) (fun d bs' _ H' => ∀ v, Rp K cl bs' H' d v → Q v H') → r v vs H Q
theorem chkL_ok {K : PySem.W.Frag} {W : Value → Option Addr → Hp → Prop} {bs : List Addr} {s : Sto} {H : Hp} {x : D} {v : V} {α : Type} {k : Cm α} {P : α → List Addr → Sto → Hp → Prop} (S : StR K cl bs s H) (r : Rp K cl bs H x v) (h : Run K cl W bs s H (bnd (chkL x) fun _ => k) P) :
    tyV K "list" v H ∧ Run K cl W bs s H k P := by
  cases x with
  | box j =>
    cases q : lAt s j with
    | none => exact (Run.of_no h (by unfold G.bnd chkL; simp only [q])).elim
    | some ds =>
      obtain ⟨p, vs, rfl, _, e2, e3⟩ := S.lst q r
      refine ⟨.inl ⟨rfl, vs, SqL.of e2⟩, ?_⟩
      have e : bnd (chkL (.box j)) (fun _ => k) s = k s := by unfold G.bnd chkL; simp only [q]
      unfold Run at h ⊢
      rw [e] at h
      exact h
  | _ => exact (show False from h).elim
theorem tBM_of {K : PySem.W.Frag} {co : CE} {aa : CA} {f : D → List D → Cm D} {r : V → List V → Hp → VK → Prop} {σ : L2.St} {H : Hp} {Q : VK} (hf : MeS K cl f r) (h : TEof K cl W (cBmL f co aa) σ H Q) : tBM K "list" r (TEof K cl W co) (TAof K cl W aa) σ H Q := by
  obtain ⟨bs, s, e, S, N, h⟩ := h
  refine ⟨bs, s, e, S, N, (Run.bnd h).imp fun x b1 t1 H1 g1 S1 h1 v r1 => ?_⟩
  obtain ⟨ty, h1⟩ := chkL_ok S1 r1 h1
  exact ⟨ty, b1, t1, e, S1, N.mono g1, (Run.bnd h1).imp fun ds b2 t2 H2 g2 S2 h2 vs r2 => hf _ b2 t2 H2 x ds v vs Q S2 (r1.mono g2) r2 h2⟩
theorem tBM0_of {K : PySem.W.Frag} {co : CE} {f : D → List D → Cm D} {r : V → List V → Hp → VK → Prop} {σ : L2.St} {H : Hp} {Q : VK} (hf : MeS K cl f r) (h : TEof K cl W (cBmL f co aNil) σ H Q) : tBM0 K "list" r (TEof K cl W co) σ H Q := by
  obtain ⟨bs, s, e, S, N, h⟩ := h
  refine ⟨bs, s, e, S, N, (Run.bnd h).imp fun x b1 t1 H1 g1 S1 h1 v r1 => ?_⟩
  obtain ⟨ty, h1⟩ := chkL_ok S1 r1 h1
  exact ⟨ty, hf _ b1 t1 H1 x [] v [] Q S1 r1 .nil (Run.now S1 (Run.bnd h1))⟩
theorem me_app {K : PySem.W.Frag} : MeS K cl dApp rAppend := by
  intro W bs s H x ds v vs Q S r rs h
  unfold dApp at h
  split at h
  · rename_i j y
    obtain ⟨w, rfl, r2⟩ := rs.one
    cases q : lAt s j with
    | none => exact (Run.of_no h (by simp only [q])).elim
    | some xs =>
      obtain ⟨p, us, e1, hp, e2, e3⟩ := S.lst q r
      by_cases c : xs.length < big
      · refine ⟨p, us, w, e1, rfl, e2, ?_, ?_⟩
        · rw [← e3.length]; exact big_lt c
        · exact Run.of_ok h (a := .non) (t := s.set j (.lst (xs ++ [y]))) (by simp only [q]; rw [if_pos c]) bs _ (gr_write hp e2) (S.write hp e2 (m := .lst (xs ++ [y])) (o := .lst (us ++ [w])) (e3.append (.cons r2 .nil))) _ .non
      · exact (Run.of_no h (by simp only [q]; rw [if_neg c])).elim
  · exact h.elim
theorem me_ext {K : PySem.W.Frag} : MeS K cl dExt rExtend := by
  intro W bs s H x ds v vs Q S r rs h
  unfold dExt at h
  split at h
  · rename_i j k
    obtain ⟨w, rfl, r2⟩ := rs.one
    cases q : lAt s j with
    | none => exact (Run.of_no h (by simp only [q])).elim
    | some xs =>
      cases q2 : lAt s k with
      | none => exact (Run.of_no h (by simp only [q, q2])).elim
      | some ys =>
        obtain ⟨p, us, e1, hp, e2, e3⟩ := S.lst q r
        obtain ⟨p', us', e1', hp', e2', e3'⟩ := S.lst q2 r2
        by_cases c : xs.length + ys.length ≤ big
        · refine ⟨p, p', us, us', e1, by rw [e1'], e2, e2', ?_, ?_⟩
          · rw [← e3.length, ← e3'.length]; exact big_line c
          · exact Run.of_ok h (a := .non) (t := s.set j (.lst (xs ++ ys))) (by simp only [q, q2]; rw [if_pos c]) bs _ (gr_write hp e2) (S.write hp e2 (m := .lst (xs ++ ys)) (o := .lst (us ++ us')) (e3.append e3')) _ .non
        · exact (Run.of_no h (by simp only [q, q2]; rw [if_neg c])).elim
  · exact h.elim
theorem me_clear {K : PySem.W.Frag} : MeS K cl dClear rClear := by
  intro W bs s H x ds v vs Q S r rs h
  unfold dClear at h
  split at h
  · rename_i j
    cases rs
    cases q : lAt s j with
    | none => exact (Run.of_no h (by simp only [q])).elim
    | some xs =>
      obtain ⟨p, us, e1, hp, e2, e3⟩ := S.lst q r
      exact ⟨p, us, e1, rfl, e2, Run.of_ok h (a := .non) (t := s.set j (.lst [])) (by simp only [q]) bs _ (gr_write hp e2) (S.write hp e2 (m := .lst []) (o := .lst []) .nil) _ .non⟩
  · exact h.elim
section
variable {o a : Expr} {es : List Expr} {co : CE} {aa : CA} {apos cpos : Pos}
theorem s_app (ho : SE X cl W o co) (ha : SA X cl W (a :: es) aa) (hbase : attributeBase o "append" X.env (eval o X.env) = eval o X.env := by rfl)
    (hfew : ((backTo cpos (starEach (a :: es) X.env)).all (fun x => !x.1) && (backToKw cpos (keywordEach [] X.env)).all (fun x => x.1.isSome)
      && decide ((a :: es).length + ([] : List Keyword).length + (if ([] : List Keyword).isEmpty then 0 else 1) < 30)) = true := by rfl)
    (hline : (apos.endLine == cpos.line) = true := by rfl) (hs : starEach (a :: es) X.env = (false, eval a X.env) :: starEach es X.env := by rfl) (hplain : (backTo cpos (starEach es X.env)).any (·.1) = false := by rfl) : SE X cl W (.Call (.Attribute o "append" apos) (a :: es) [] cpos) (cBmL dApp co aa) :=
  PE.imp (pe_bm PySem.F.plainAttrs_list PySem.F.slot_list_append PySem.F.type_list_append mt_append ho ha hbase hfew hline hs hplain) fun σ H Q h => tBM_of me_app h
theorem s_ext (ho : SE X cl W o co) (ha : SA X cl W (a :: es) aa) (hbase : attributeBase o "extend" X.env (eval o X.env) = eval o X.env := by rfl)
    (hfew : ((backTo cpos (starEach (a :: es) X.env)).all (fun x => !x.1) && (backToKw cpos (keywordEach [] X.env)).all (fun x => x.1.isSome)
      && decide ((a :: es).length + ([] : List Keyword).length + (if ([] : List Keyword).isEmpty then 0 else 1) < 30)) = true := by rfl)
    (hline : (apos.endLine == cpos.line) = true := by rfl) (hs : starEach (a :: es) X.env = (false, eval a X.env) :: starEach es X.env := by rfl) (hplain : (backTo cpos (starEach es X.env)).any (·.1) = false := by rfl) : SE X cl W (.Call (.Attribute o "extend" apos) (a :: es) [] cpos) (cBmL dExt co aa) :=
  PE.imp (pe_bm PySem.F.plainAttrs_list PySem.F.slot_list_extend PySem.F.type_list_extend mt_extend ho ha hbase hfew hline hs hplain) fun σ H Q h => tBM_of me_ext h
theorem s_clear (ho : SE X cl W o co) (hbase : attributeBase o "clear" X.env (eval o X.env) = eval o X.env := by rfl) (hline : (apos.endLine == cpos.line) = true := by rfl) : SE X cl W (.Call (.Attribute o "clear" apos) [] [] cpos) (cBmL dClear co aNil) :=
  PE.imp (pe_bm0 PySem.F.plainAttrs_list PySem.F.slot_list_clear PySem.F.type_list_clear mt_clear ho hbase hline) fun σ H Q h => tBM0_of me_clear h
end

/-! ### defs -/
/-- a def that raises nothing, in a world where none does -/
theorem fn_mk {Y : Wd} {x qual : Str} {st : Stmt} {f : Addr} {fd : FuncData} {N ps : List Str} {k n m : Nat} {c : CS} (hCX : Y.CX = CX0) (hF : Y.F = fun _ => F0) (F : Fun Y.K x qual st f fd) (S : FnScope N ps (defScope st))
    (hn : ps.length = n) (hN : N.length = m)
    (body : ∀ (cdv : Value) (A : Around) (outer : List PySem.Env) (s : Shared) (H : Hp) (E : XK), Room k (A.deeper (envOfC qual (defScope st) s.heap.objs.size f cdv)) →
      SSs (cxOf CX0 Y.P Y.w Y.K Y.mg Y.base N qual (defScope st) f cdv A outer s H E).nox Y.cl W0 (defBody st) c) : FnOk Y.P Y.w Y.K Y.mg Y.base Y.CX (k + 1) f fd ps (spOf Y.K Y.cl Y.F n (dfn n m c)) := by
  rw [hCX]
  refine F.ok S (fun vs H Q E h => by rw [spOf_len h, hn]) fun cdv A outer s H vs Q E hr h => ?_
  refine ⟨_, body cdv A outer s H E hr, ?_⟩
  obtain ⟨bs, t, ds, h1, S1, r1, h2⟩ := h
  rw [hF] at h2
  have e : dfn n m c ds = bnd (c (ds.map some ++ List.replicate (m - n) none)) (fun fl => match fl with
      | .nx _ => ret .non
      | .rt d => ret d
      | .ex c fs _ => fun s => .ex c fs s
      | .bk _ => noC
      | .ct _ => noC) := by
    unfold dfn
    rw [if_pos h1]
    all_goals rfl
  rw [e] at h2
  refine ⟨bs, t, _, S1, ⟨?_, fun i d q => ?_⟩, (Run.bnd h2).imp fun fl b1 t1 H1 g1 S2 k1 => ?_⟩
  · unfold L2.start
    simp only [List.length_append, List.length_map, List.length_replicate]
    rw [r1.length, hN, ← h1, r1.length]
  · unfold L2.start
    by_cases hi : i < ds.length
    · rw [List.getElem?_append_left (by simpa using hi), List.getElem?_map] at q
      cases e1 : ds[i]? with
      | none => rw [e1] at q; cases q
      | some d' =>
        rw [e1] at q
        obtain ⟨v, hv, rv⟩ := r1.get e1
        cases q
        exact ⟨v, by rw [List.getElem?_append_left (by rw [List.length_map, ← r1.length]; exact hi), List.getElem?_map, hv]; rfl, rv⟩
    · rw [List.getElem?_append_right (by simpa using hi)] at q
      have := List.mem_of_getElem? q
      rw [List.mem_replicate] at this
      cases this.2
  · cases fl with
    | nx e' => exact fun σ' N' => Run.now S2 k1 _ .non
    | rt d => exact fun v r => Run.now S2 k1 _ r
    | bk e' => exact (Run.of_no k1 rfl).elim
    | ct e' => exact (Run.of_no k1 rfl).elim
    | ex cn fs e' => exact fun σ' u dx N' X1 => (show Run Y.K Y.cl F0 b1 t1 H1 (fun s => .ex cn fs s) _ from k1) b1 H1 u dx (Gr.refl _ _) S2 X1
end
theorem df_mk {Y : Wd} {x qual : Str} {st : Stmt} {f : Addr} {fd : FuncData} {N ps : List Str} {k n m : Nat} {c : CS} (hCX : Y.CX = CX0) (hF : Y.F = fun _ => F0) (F : Fun Y.K x qual st f fd) (S : FnScope N ps (defScope st)) (hm : Y.mg x = some (.ref f)) (hb : Binds Y.K fd ps [])
    (hn : ps.length = n) (hN : N.length = m)
    (body : ∀ (cdv : Value) (A : Around) (outer : List PySem.Env) (s : Shared) (H : Hp) (E : XK), Room k (A.deeper (envOfC qual (defScope st) s.heap.objs.size f cdv)) →
      SSs (cxOf CX0 Y.P Y.w Y.K Y.mg Y.base N qual (defScope st) f cdv A outer s H E).nox Y.cl W0 (defBody st) c) : Df Y x (k + 1) n (dfn n m c) :=
  ⟨fun ds h s => by unfold dfn; rw [if_neg h]; rfl, f, fd, ps, hm, F.kp, hb, hn, fn_mk hCX hF F S hn hN body⟩
/-- the world of a law that raises nothing -/
abbrev wz (P : Program) (w : World) (K : PySem.W.Frag) (mg : Str → Option Value) (base : Heap) (cl : Str → Addr) : Wd := ⟨P, w, K, mg, base, CX0, cl, fun _ => F0⟩
structure Is (X : Cx) (P : Program) (w : World) (K : PySem.W.Frag) (mg : Str → Option Value) (base : Heap) : Prop where
  p : X.prog = P
  w : X.w = w
  K : X.K = K
  mg : X.mg = mg
  base : X.base = base
theorem Is.lets {X : Cx} {P : Program} {w : World} {K : PySem.W.Frag} {mg : Str → Option Value} {base : Heap} {cl : Str → Addr} (i : Is X P w K mg base) : Lets (wz P w K mg base cl) X W0 := ⟨i.p, i.w, i.K, i.mg, i.base, fun _ _ _ _ _ _ _ h => h.elim, fun _ _ _ _ h => h⟩
section
variable {X : Cx} {cl : Str → Addr} {P : Program} {w : World} {K : PySem.W.Frag} {mg : Str → Option Value} {base : Heap} {k n : Nat} {g : List D → Cm D} {x : Str} {e0 : Expr} {es : List Expr} {aa : CA} {p pos : Pos}
theorem z_call (d : Df (wz P w K mg base cl) x k n g) (i : Is X P w K mg base) (hr : Room k X.A) (hg : Gl X x) (ha : SA X cl W0 (e0 :: es) aa) (hdb : (x == ("__debug__" : Str)) = false := by decide)
    (he : starEach (e0 :: es) X.env = (false, eval e0 X.env) :: starEach es X.env := by rfl) (hpl : (backTo pos (starEach es X.env)).any (·.1) = false := by rfl) : SE X cl W0 (.Call (.Name x p) (e0 :: es) [] pos) (cCall g aa) := s_call d i.lets hr hg ha hdb he hpl
theorem z_call0 (d : Df (wz P w K mg base cl) x k 0 g) (i : Is X P w K mg base) (hr : Room k X.A) (hg : Gl X x) (hdb : (x == ("__debug__" : Str)) = false := by decide) : SE X cl W0 (.Call (.Name x p) [] [] pos) (cCall g aNil) := s_call0 d i.lets hr hg hdb
end
/-- the law's own call, from what the data level says of it -/
theorem law_sp {K : PySem.W.Frag} {cl : Str → Addr} {F : XK → XK} {g : List D → Cm D} {n : Nat} (h : ∀ ns : List Int, ns.length ≤ n → ∃ t, g [.lst (ns.map D.int)] [] = .ok (.bl true) t) {H : Hp} {a : Addr} {ns : List Int} (hl : ns.length ≤ n) (hO : Only H) (hS : SqL K H a (ns.map V.int)) :
    spOf K cl F 1 g [.ref a] H (fun v _ => v = .bl true) fun _ _ _ => False := by
  obtain ⟨t, e⟩ := h ns hl
  refine ⟨[], [], [.lst (ns.map D.int)], rfl, ⟨rfl, .nil, fun j m e => by simp at e⟩, .cons (.lst (vs := ns.map V.int) ?_ ?_) .nil, ?_⟩
  · rcases hS with (hS | ⟨o, hS⟩) | hS
    · rcases hO a with z | ⟨o, xs, z⟩
      · rw [z] at hS; cases hS
      · rw [z] at hS; cases hS
    · exact .inl ⟨o, hid_of (by simp) hS⟩
    · exact .inr hS
  · have : ∀ ns : List Int, RpL K cl [] H (ns.map D.int) (ns.map V.int) := by
      intro ns
      induction ns with
      | nil => exact .nil
      | cons n ns ih => exact .cons (.int n) ih
    exact this ns
  · unfold Run
    rw [e]
    exact fun bs' H' _ _ v r => r.bl_inv
/-- a constant of the module -/
structure Kg (K : PySem.W.Frag) (mg : Str → Option Value) (x : Str) (d : D) : Prop where
  ex : ∃ v u, mg x = some u ∧ RelV v u ∧ ∀ cl bs H, Rp K cl bs H d v
theorem z_kon {X : Cx} {cl : Str → Addr} {W : WX} {K : PySem.W.Frag} {mg : Str → Option Value} {x : Str} {d : D} {pos : Pos} (k : Kg K mg x d) (hK : X.K = K) (hmg : X.mg = mg) (hg : Gl X x) (hd : (x == ("__debug__" : Str)) = false := by decide) : SE X cl W (.Name x pos) (cK d) := by
  obtain ⟨v, u, h1, h2, h3⟩ := k.ex
  subst hK hmg
  exact s_glob hg h1 h2 (h3 cl) hd
theorem kg_int {K : PySem.W.Frag} {mg : Str → Option Value} {x : Str} {i : Int} {t : Tok} (h : mg x = some (.int i t)) : Kg K mg x (.int i) := ⟨.int i, _, h, ⟨t, rfl⟩, fun _ _ _ => .int i⟩
theorem kg_str {K : PySem.W.Frag} {mg : Str → Option Value} {x : Str} {i : Str} {t : Tok} (h : mg x = some (.str i t)) : Kg K mg x (.str i) := ⟨.str i, _, h, ⟨t, rfl⟩, fun _ _ _ => .str i⟩
end G

set_option Elab.async false
set_option linter.all false
set_option maxRecDepth 100000
set_option maxHeartbeats 4000000
/-! G, soundness: index, the module's own tuples and tables. -/
namespace G
open PySem L2 PySem.Spec PyProof.Rows
section
variable {X : Cx} {cl : Str → Addr} {W : WX}
theorem eqV_at {K : PySem.W.Frag} {bs : List Addr} {H : Hp} {x y : D} {v w : V} (h : flatD x = true) (h' : flatD y = true) (r : Rp K cl bs H x v) (r' : Rp K cl bs H y w) : eqV v w = eqD x y := eqV_ok h h' r r'
theorem all_at {ds : List D} {i : Nat} {d : D} (h : ds.all flatD = true) (e : ds[i]? = some d) : flatD d = true := List.all_eq_true.mp h d (List.mem_of_getElem? e)
theorem allV_ok {K : PySem.W.Frag} {bs : List Addr} {H : Hp} : ∀ {ds : List D} {vs : List V}, ds.all flatD = true → RpL K cl bs H ds vs → vs.all flatV = true
  | [], _, _, .nil => rfl
  | d :: ds, _, h, .cons r rr => by
    rw [List.all_cons, Bool.and_eq_true] at h
    rw [List.all_cons, flat_ok h.1 r, allV_ok h.2 rr]
    rfl
theorem me_index {K : PySem.W.Frag} : MeS K cl dIndexL (rIndex K) := by
  intro W bs s H x ds v vs Q S r rs h
  unfold dIndexL at h
  split at h
  · rename_i j y
    obtain ⟨w, rfl, ry⟩ := rs.one
    cases q : lAt s j with
    | none => exact (Run.of_no h (by simp only [q])).elim
    | some xs =>
    by_cases c : flatD y = true ∧ xs.all flatD = true
    rotate_left
    · exact (Run.of_no h (by simp only [q]; rw [if_neg c])).elim
    cases e : placeOf y xs with
    | none => exact (Run.of_no h (by simp only [q]; rw [if_pos c]; simp only [e])).elim
    | some k =>
    have fin := Run.of_ok h (a := .int k) (t := s) (by simp only [q]; rw [if_pos c]; simp only [e]) bs H (Gr.refl _ _) S _ (.int _)
    obtain ⟨p, us, e1, hp, e2, e3⟩ := S.lst q r
    obtain ⟨hk, hk2, hk3⟩ := List.findIdx?_eq_some_iff_getElem.mp e
    obtain ⟨u, eu, ru⟩ := e3.get (List.getElem?_eq_getElem hk)
    have fk := all_at c.2 (List.getElem?_eq_getElem hk)
    refine ⟨p, us, w, k, u, e1, rfl, SqL.of e2, flat_ok c.1 ry, allV_ok c.2 e3, eu, ?_, fun m z hm ez => ?_, fin⟩
    · rw [eqV_ok fk c.1 ru ry]; exact hk2
    · obtain ⟨d, ed, rd⟩ := e3.get' ez
      have hm' : m < xs.length := (List.getElem?_eq_some_iff.mp ed).1
      have hd : xs[m] = d := (List.getElem?_eq_some_iff.mp ed).2
      rw [eqV_ok (all_at c.2 ed) c.1 rd ry, ← hd]
      simpa using hk3 m hm
  · exact h.elim
section
variable {o a : Expr} {es : List Expr} {co : CE} {aa : CA} {apos cpos : Pos}
theorem s_index (ho : SE X cl W o co) (ha : SA X cl W (a :: es) aa) (hbase : attributeBase o "index" X.env (eval o X.env) = eval o X.env := by rfl)
    (hfew : ((backTo cpos (starEach (a :: es) X.env)).all (fun x => !x.1) && (backToKw cpos (keywordEach [] X.env)).all (fun x => x.1.isSome)
      && decide ((a :: es).length + ([] : List Keyword).length + (if ([] : List Keyword).isEmpty then 0 else 1) < 30)) = true := by rfl)
    (hline : (apos.endLine == cpos.line) = true := by rfl) (hs : starEach (a :: es) X.env = (false, eval a X.env) :: starEach es X.env := by rfl) (hplain : (backTo cpos (starEach es X.env)).any (·.1) = false := by rfl) : SE X cl W (.Call (.Attribute o "index" apos) (a :: es) [] cpos) (cBmL dIndexL co aa) :=
  PE.imp (pe_bm PySem.F.plainAttrs_list PySem.F.slot_list_index PySem.F.type_list_index mt_index ho ha hbase hfew hline hs hplain) fun σ H Q h => tBM_of me_index h
end
/-! ### the module's own -/
/-- a tuple of written texts -/
structure Kt (K : PySem.W.Frag) (mg : Str → Option Value) (x : Str) (ys : List Str) : Prop where
  ex : ∃ a o its n, mg x = some (.ref a) ∧ K.lookup a = some o ∧ o.cls = .type "tuple" ∧ o.dict = none ∧ o.data = .seq its n ∧ its.size ≤ sizeLine ∧ Vals (ys.map V.str) its.toList
/-- a written value: what it is -/
structure Kv (K : PySem.W.Frag) (d : D) (v : V) (u : Value) : Prop where
  rel : RelV v u
  rp : ∀ cl bs H, Rp K cl bs H d v
inductive KvL (K : PySem.W.Frag) : List D → List V → List Value → Prop
  | nil : KvL K [] [] []
  | cons {d : D} {v : V} {u : Value} {ds : List D} {vs : List V} {us : List Value} (h : Kv K d v u) (r : KvL K ds vs us) : KvL K (d :: ds) (v :: vs) (u :: us)
theorem kv_int {K : PySem.W.Frag} {i : Int} {t : Tok} : Kv K (.int i) (.int i) (.int i t) := ⟨⟨t, rfl⟩, fun _ _ _ => .int i⟩
theorem kv_str {K : PySem.W.Frag} {x : Str} {t : Tok} : Kv K (.str x) (.str x) (.str x t) := ⟨⟨t, rfl⟩, fun _ _ _ => .str x⟩
theorem KvL.vals {K : PySem.W.Frag} {ds : List D} {vs : List V} {us : List Value} (h : KvL K ds vs us) : Vals vs us := by
  induction h with
  | nil => exact .nil
  | cons h _ ih => exact .cons h.rel ih
theorem KvL.rpl {K : PySem.W.Frag} {ds : List D} {vs : List V} {us : List Value} (h : KvL K ds vs us) (cl : Str → Addr) (bs : List Addr) (H : Hp) : RpL K cl bs H ds vs := by
  induction h with
  | nil => exact .nil
  | cons h _ ih => exact .cons (h.rp cl bs H) ih
theorem kv_tup {K : PySem.W.Frag} {a : Addr} {o : Obj} {its : Array Value} {n : Nat} {us : List Value} {ds : List D} {vs : List V} (h1 : K.lookup a = some o) (h2 : o.cls = .type "tuple") (h3 : o.data = .seq its n) (hu : its.toList = us) (h : KvL K ds vs us) (hs : its.size ≤ sizeLine) : Kv K (.tup ds) (.ref a) (.ref a) :=
  ⟨rfl, fun cl bs H => .tup (.inr ⟨o, its, n, h1, h2, h3, hs, by rw [hu]; exact h.vals⟩) (h.rpl cl bs H)⟩
theorem kg_of {K : PySem.W.Frag} {mg : Str → Option Value} {x : Str} {d : D} {v : V} {u : Value} (h : mg x = some u) (k : Kv K d v u) : Kg K mg x d := ⟨v, u, h, k.rel, k.rp⟩
theorem kt_of {K : PySem.W.Frag} {mg : Str → Option Value} {x : Str} {ys : List Str} {a : Addr} {its : Array Value} {n : Nat} {us : List Value} {ds : List D} {vs : List V} (h1 : mg x = some (.ref a)) (h2 : K.lookup a = some ⟨.type "tuple", none, .seq its n, #[]⟩) (hu : its.toList = us) (h : KvL K ds vs us) (hs : its.size ≤ sizeLine) (hv : vs = ys.map V.str) : Kt K mg x ys :=
  ⟨a, _, its, n, h1, h2, rfl, rfl, rfl, hs, by rw [hu, ← hv]; exact h.vals⟩
/-- the entries of a dict with written texts as keys -/
inductive KdL (K : PySem.W.Frag) (P : Params) : List (Str × D) → List DictEntry → Prop
  | nil : KdL K P [] []
  | cons {x : Str} {t : Tok} {d : D} {v : V} {u : Value} {tbl : List (Str × D)} {es : List DictEntry} (h : Kv K d v u) (r : KdL K P tbl es) : KdL K P ((x, d) :: tbl) (⟨PyData.keyHash P x, .str x t, u⟩ :: es)
theorem KdL.lit {K : PySem.W.Frag} {P : Params} {tbl : List (Str × D)} {es : List DictEntry} (h : KdL K P tbl es) : PySem.W.KeysLit P es := by
  induction h with
  | nil => exact trivial
  | cons _ _ ih => exact ⟨⟨_, _, rfl, rfl⟩, ih⟩
theorem KdL.plain {K : PySem.W.Frag} {P : Params} {tbl : List (Str × D)} {es : List DictEntry} (h : KdL K P tbl es) : es.any (·.refKey) = false := by
  induction h with
  | nil => rfl
  | cons _ _ ih => rw [List.any_cons, ih]; rfl
theorem KdL.find {K : PySem.W.Frag} {P : Params} {tbl : List (Str × D)} {es : List DictEntry} (h : KdL K P tbl es) (z : Str) :
    (tabV tbl z = none ∧ es.find? (fun e => e.key.isStr z) = none) ∨ ∃ d v e, tabV tbl z = some d ∧ es.find? (fun e => e.key.isStr z) = some e ∧ Kv K d v e.val := by
  induction h with
  | nil => exact .inl ⟨rfl, rfl⟩
  | @cons x t d v u tbl es k r ih =>
    have key : (⟨PyData.keyHash P x, .str x t, u⟩ : DictEntry).key.isStr z = decide (x = z) := by
      show (x == z) = _
      by_cases c : x = z <;> simp [c]
    by_cases c : x = z
    · refine .inr ⟨d, v, _, ?_, List.find?_cons_of_pos (by rw [key]; simp [c]), k⟩
      unfold tabV
      rw [List.find?_cons_of_pos (by simp [c])]
      rfl
    · have e1 : tabV ((x, d) :: tbl) z = tabV tbl z := by
        unfold tabV
        rw [List.find?_cons_of_neg (by simp [c])]
      rw [e1, List.find?_cons_of_neg (by rw [key]; simp [c])]
      exact ih
/-- a dict with written texts as keys -/
structure Kd (K : PySem.W.Frag) (P : Params) (mg : Str → Option Value) (x : Str) (tbl : List (Str × D)) : Prop where
  ex : ∃ a es n, mg x = some (.ref a) ∧ K.lookup a = some ⟨.type "dict", none, .dict es n, #[]⟩ ∧ KdL K P tbl es.toList ∧ (a == sysModules) = false
theorem kd_of {K : PySem.W.Frag} {P : Params} {mg : Str → Option Value} {x : Str} {tbl : List (Str × D)} {a : Addr} {es : Array DictEntry} {l : List DictEntry} {n : Nat} (h1 : mg x = some (.ref a)) (h2 : K.lookup a = some ⟨.type "dict", none, .dict es n, #[]⟩) (h3 : (a == sysModules) = false) (h4 : es.toList = l) (h5 : KdL K P tbl l) : Kd K P mg x tbl := ⟨a, es, n, h1, h2, by rw [h4]; exact h5, h3⟩
theorem ns_some {K : PySem.W.Frag} {a : Addr} {es : Array DictEntry} {n : Nat} {z : Str} {e : DictEntry} (h : K.lookup a = some ⟨.type "dict", none, .dict es n, #[]⟩) (f : es.toList.find? (fun e => e.key.isStr z) = some e) : PySem.W.nsIn K a z = some (some e.val) := by
  unfold PySem.W.nsIn
  rw [h]
  dsimp only
  rw [f]
theorem ns_none {K : PySem.W.Frag} {a : Addr} {es : Array DictEntry} {n : Nat} {z : Str} (h : K.lookup a = some ⟨.type "dict", none, .dict es n, #[]⟩) (f : es.toList.find? (fun e => e.key.isStr z) = none) (g : es.toList.any (·.refKey) = false) : PySem.W.nsIn K a z = some none := by
  unfold PySem.W.nsIn
  rw [h]
  dsimp only
  rw [f, g]
  rfl
section
variable {K : PySem.W.Frag} {mg : Str → Option Value} {x : Str} {b : Expr} {cb : CE} {p apos pos : Pos}
theorem z_tupIx {ys : List Str} (k : Kt K mg x ys) (hK : X.K = K) (hmg : X.mg = mg) (hg : Gl X x) (hb : SE X cl W b cb) (hd : (x == ("__debug__" : Str)) = false := by decide)
    (hbase : attributeBase (.Name x p) "index" X.env (eval (.Name x p) X.env) = eval (.Name x p) X.env := by rfl)
    (hfew : ((backTo pos (starEach [b] X.env)).all (fun x => !x.1) && (backToKw pos (keywordEach [] X.env)).all (fun x => x.1.isSome)
      && decide (([b] : List Expr).length + ([] : List Keyword).length + (if ([] : List Keyword).isEmpty then 0 else 1) < 30)) = true := by rfl)
    (hline : (apos.endLine == pos.line) = true := by rfl) (hs : starEach [b] X.env = (false, eval b X.env) :: starEach [] X.env := by rfl) (hplain : (backTo pos (starEach [] X.env)).any (·.1) = false := by rfl) :
    SE X cl W (.Call (.Attribute (.Name x p) "index" apos) [b] [] pos) (cUn (tupIx ys) cb) := by
  subst hK hmg
  obtain ⟨a, o, its, n, h1, h2, h3, h4, h5, h6, h7⟩ := k.ex
  refine PE.imp (pe_bm PySem.F.plainAttrs_tuple PySem.F.slot_tuple_index PySem.F.type_tuple_index mt_tup_index (pe_glob hg h1 (v := .ref a) rfl hd) (pa_cons hb pa_nil hs) hbase hfew hline hs hplain) fun σ H Q ⟨bs, s, e, S, N, h⟩ => ?_
  refine ⟨.inr (.inl ⟨rfl, o, h2, h3, h4⟩), bs, s, e, S, N, (Run.bnd h).imp fun d b1 t1 H1 g1 S1 k1 v r1 => ?_⟩
  cases d with
  | str z =>
    have hq : SqT X.K H1 a (ys.map V.str) := .inr ⟨o, its, n, h2, h3, h5, h6, h7⟩
    have k1 : Run X.K cl (fun u dx H' => W u dx σ H') b1 t1 H1 (match ys.findIdx? fun y => decide (y = z) with | some k => ret (D.int k) | none => noC) (fun d bs' _ H' => ∀ v, Rp X.K cl bs' H' d v → Q v H') := k1
    cases e : ys.findIdx? fun y => decide (y = z) with
    | none => rw [e] at k1; exact (show False from k1).elim
    | some j =>
      rw [e] at k1
      obtain ⟨hj, hj2, hj3⟩ := List.findIdx?_eq_some_iff_getElem.mp e
      refine ⟨a, ys, z, j, rfl, by rw [r1.str_inv], hq, ?_, fun m hm q => ?_, Run.now S1 k1 _ (.int _)⟩
      · rw [List.getElem?_eq_getElem hj]; exact congrArg some (of_decide_eq_true hj2)
      · have hm' := (List.getElem?_eq_some_iff.mp q).1
        have hq' := (List.getElem?_eq_some_iff.mp q).2
        have := hj3 m hm
        simp only [decide_eq_true_eq] at this
        exact this hq'
  | _ => exact (show False from k1).elim
/-- NAME[e] of a table -/
theorem z_tabIx {w : World} {tbl : List (Str × D)} (k : Kd K w.params mg x tbl) (hK : X.K = K) (hw : X.w = w) (hmg : X.mg = mg) (hg : Gl X x) (hb : SE X cl W b cb) (hd : (x == ("__debug__" : Str)) = false := by decide) (hs : PlainIx b := by intro _ _; rfl) :
    SE X cl W (.Subscript (.Name x p) b pos) (cUn (tabIx tbl) cb) := by
  subst hK hmg hw
  obtain ⟨a, es, n, h1, h2, h3, h4⟩ := k.ex
  refine PE.imp (pe_ix ix_kdict (pe_glob hg h1 (v := .ref a) rfl hd) hb hs) fun σ H Q ⟨bs, s, e, S, N, h⟩ => ?_
  refine ⟨bs, s, e, S, N, (Run.bnd h).imp fun d b1 t1 H1 g1 S1 k1 v r1 => ?_⟩
  cases d with
  | str z =>
    have k1 : Run X.K cl (fun u dx H' => W u dx σ H') b1 t1 H1 (match tabV tbl z with | some d => ret d | none => noC) (fun d bs' _ H' => ∀ v, Rp X.K cl bs' H' d v → Q v H') := k1
    rcases h3.find z with ⟨q1, q2⟩ | ⟨d, v', en, q1, q2, q3⟩
    · rw [q1] at k1; exact (show False from k1).elim
    · rw [q1] at k1
      exact ⟨a, z, v', rfl, r1.str_inv, ⟨es, n, en.val, h2, h3.lit, ns_some h2 q2, q3.rel⟩, Run.now S1 k1 _ (q3.rp cl _ _)⟩
  | _ => exact (show False from k1).elim
/-- NAME.get(e, d) of a table -/
def rGetT (K : PySem.W.Frag) (es : List DictEntry) : R2 := fun y z H Q => ∃ t, y = .str t ∧ ((es.find? (fun e => e.key.isStr t) = none ∧ Q z H) ∨ ∃ v e, es.find? (fun e => e.key.isStr t) = some e ∧ RelV v e.val ∧ Q v H)
theorem op_tabGet {P : Params} {tbl : List (Str × D)} {es : List DictEntry} (h3 : KdL K P tbl es) : OpS K cl (tabGet tbl) (rGetT K es) := by
  intro W bs s H x y v w Q S r r' h
  cases x with
  | str z =>
    have h : Run K cl W bs s H (ret ((tabV tbl z).getD y)) (fun d bs' _ H' => ∀ v, Rp K cl bs' H' d v → Q v H') := h
    refine ⟨z, r.str_inv, ?_⟩
    rcases h3.find z with ⟨q1, q2⟩ | ⟨d, v', en, q1, q2, q3⟩
    · rw [q1] at h
      exact .inl ⟨q2, Run.now S h _ r'⟩
    · rw [q1] at h
      exact .inr ⟨v', en, q2, q3.rel, Run.now S h _ (q3.rp cl _ _)⟩
  | _ => exact (show False from h).elim
theorem z_tabGet {w : World} {tbl : List (Str × D)} {c : Expr} {cc : CE} (k : Kd K w.params mg x tbl) (hK : X.K = K) (hw : X.w = w) (hmg : X.mg = mg) (hg : Gl X x) (hb : SE X cl W b cb) (hc : SE X cl W c cc) (m : M2 X (.Name x p) "get" apos b c pos) (hd : (x == ("__debug__" : Str)) = false := by decide) :
    SE X cl W (.Call (.Attribute (.Name x p) "get" apos) [b, c] [] pos) (cBin (tabGet tbl) cb cc) := by
  subst hK hmg hw
  obtain ⟨a, es, n, h1, h2, h3, h4⟩ := k.ex
  refine ⟨fun pins s σ H Q I h => ?_⟩
  have h := tOp_of (op_tabGet h3) h
  refine wpAny_Call_method m.base m.few m.line PySem.F.plainAttrs_dict PySem.F.slot_dict_get PySem.F.type_dict_get (thn ((pe_glob hg h1 (v := .ref a) rfl hd).run pins s σ H (fun y H' => y = .ref a ∧ tOp (rGetT X.K es.toList) (TEof X.K cl W cb) (TEof X.K cl W cc) σ H' Q) I ⟨rfl, h⟩) fun u s1 ⟨y, H1, I1, ry, ey, q1⟩ => ?_)
  subst ey
  obtain rfl : u = Value.ref a := ry
  have hm := PySem.W.mapOf_K (prog := X.prog) (w := X.w) I1.kIn h2 h3.lit
  refine ⟨hm.typeIs, fun b q => ?_, ?_⟩
  · cases q
    exact ⟨_, I1.kIn _ _ h2, rfl⟩
  rw [m.trees]
  refine Calls.callWith_builtin rfl (Calls.evalArgs_plain (Calls.spliced_cons (thn (hb.run pins s1 σ H1 _ I1 q1) fun iv s2 ⟨y, H2, I2, ry, q2⟩ =>
    Calls.spliced_cons (thn (hc.run pins s2 σ H2 _ I2 q2) fun fv s3 ⟨z, H3, I3, rz, t, et, q3⟩ => Calls.spliced_nil ?_))))
  subst et
  obtain ⟨tk, rfl⟩ := ry
  have hm3 := PySem.W.mapOf_K (prog := X.prog) (w := X.w) I3.kIn h2 h3.lit
  refine call_meetsIn PySem.F.slot_dict_get hm3.typeIs PySem.F.entry_dict_get (PySem.F.args_dict_get_3 _ _ _) (meets_dict_get_default (strKind X.prog X.w) a (strKind_is X.prog X.w t tk) h4 fv) ⟨_, hm3, ?_⟩
  rcases q3 with ⟨f, q⟩ | ⟨v, en, f, rv, q⟩
  · rw [PySem.W.find_K h2 (ns_none h2 f h3.plain)]
    exact ⟨z, H3, I3.tok _, rz, q⟩
  · rw [PySem.W.find_K h2 (ns_some h2 f)]
    exact ⟨v, H3, I3.tok _, rv, q⟩
end
end
end G

set_option Elab.async false
set_option linter.all false
set_option maxRecDepth 100000
set_option maxHeartbeats 4000000
/-! G: own dicts with ints and texts as keys (soundness; the data level is in Gd) -/
namespace G
open PySem L2 PySem.Spec PyProof.Rows
section
variable {X : Cx} {cl : Str → Addr} {W : WX}
def PsR (K : PySem.W.Frag) (cl : Str → Addr) (bs : List Addr) (H : Hp) : List (Key × D) → List (V × V) → Prop := Paired fun (p : Key × D) (q : V × V) => q.1 = kV p.1 ∧ Rp K cl bs H p.2 q.2
theorem psr_kv {K : PySem.W.Frag} {bs : List Addr} {H : Hp} {ps : List (Key × D)} {vs : List (V × V)} (h : PsR K cl bs H ps vs) : ∃ kvs : List (Key × V), vs = kvs.map (fun kv => (kV kv.1, kv.2)) ∧ KvR K cl bs H ps kvs := by
  unfold PsR at h
  induction h with
  | nil => exact ⟨[], rfl, .nil⟩
  | @cons p q ps qs h t ih =>
    obtain ⟨kvs, e, r⟩ := ih
    obtain ⟨h1, h2⟩ := h
    refine ⟨(p.1, q.2) :: kvs, ?_, .cons ⟨rfl, h2⟩ r⟩
    rw [e, List.map_cons, ← h1]
theorem kvr_any {K : PySem.W.Frag} {bs : List Addr} {H : Hp} {ps : List (Key × D)} {kvs : List (Key × V)} (h : KvR K cl bs H ps kvs) (k : Key) : (ps.any fun kv => decide (kv.1 = k)) = kvs.any fun kv => decide (kv.1 = k) := by
  unfold KvR at h
  induction h with
  | nil => rfl
  | cons h t ih => rw [List.any_cons, List.any_cons, ih, h.1]
theorem kvr_map {K : PySem.W.Frag} {bs : List Addr} {H : Hp} {ps : List (Key × D)} {kvs : List (Key × V)} (h : KvR K cl bs H ps kvs) (k : Key) {d : D} {v : V} (r : Rp K cl bs H d v) :
    KvR K cl bs H (ps.map fun kv => if kv.1 = k then (kv.1, d) else kv) (kvs.map fun kv => if kv.1 = k then (kv.1, v) else kv) := by
  unfold KvR at *
  induction h with
  | nil => exact .nil
  | @cons p q ps qs h t ih =>
    refine .cons ?_ ih
    dsimp only
    rw [h.1]
    by_cases c : q.1 = k
    · simp only [if_pos c]; exact ⟨trivial, r⟩
    · simp only [if_neg c]; exact h
theorem kvr_app {K : PySem.W.Frag} {bs : List Addr} {H : Hp} {ps : List (Key × D)} {kvs : List (Key × V)} (h : KvR K cl bs H ps kvs) (k : Key) {d : D} {v : V} (r : Rp K cl bs H d v) : KvR K cl bs H (ps ++ [(k, d)]) (kvs ++ [(k, v)]) := by
  unfold KvR at *
  induction h with
  | nil => exact .cons ⟨rfl, r⟩ .nil
  | cons h t ih => exact .cons h ih
theorem kvr_len {K : PySem.W.Frag} {bs : List Addr} {H : Hp} {ps : List (Key × D)} {kvs : List (Key × V)} (h : KvR K cl bs H ps kvs) : ps.length = kvs.length := by
  unfold KvR at h
  induction h with
  | nil => rfl
  | cons h t ih => rw [List.length_cons, List.length_cons, ih]
theorem kvr_put {K : PySem.W.Frag} {bs : List Addr} {H : Hp} {ps : List (Key × D)} {kvs : List (Key × V)} (h : KvR K cl bs H ps kvs) (k : Key) {d : D} {v : V} (r : Rp K cl bs H d v) : KvR K cl bs H (putD ps k d) (putK kvs k v) := by
  unfold putD putK
  rw [kvr_any h k]
  split
  · exact kvr_map h k r
  · exact kvr_app h k r
theorem kvr_merge {K : PySem.W.Frag} {bs : List Addr} {H : Hp} {ps : List (Key × D)} {kvs : List (Key × V)} (h : KvR K cl bs H ps kvs) : ∀ {as : List (Key × D)} {bs' : List (Key × V)}, KvR K cl bs H as bs' → KvR K cl bs H (mergeD as ps) (mergeK bs' kvs) := by
  unfold KvR at h
  induction h with
  | nil => exact fun q => q
  | @cons p q ps qs h t ih =>
    intro as bs' r
    show KvR K cl bs H (mergeD (putD as p.1 p.2) ps) (mergeK (putK bs' q.1 q.2) qs)
    rw [← h.1]
    exact ih (kvr_put r p.1 h.2)
/-- the pairs of a display -/
def SP (X : Cx) (cl : Str → Addr) (W : WX) (pos : Pos) (keys : List (Option Expr)) (values : List Expr) (c : CP) : Prop :=
  ∃ trs, PPs X pos keys values trs ∧ ∀ (σ : L2.St) bs s e H (Q : List (V × V) → Hp → Prop), StR X.K cl bs s H → EnR X.K cl bs H e σ → Run X.K cl (fun u dx H' => W u dx σ H') bs s H (c e) (fun ps bs' _ H' => ∀ vs, PsR X.K cl bs' H' ps vs → Q vs H') → tPairs trs σ H Q
theorem sp_nil {pos : Pos} : SP X cl W pos [] [] pNil := ⟨[], pps_nil, fun σ bs s e H Q S N h => Run.now S h [] .nil⟩
theorem sp_cons {pos : Pos} {k v : Expr} {ks : List (Option Expr)} {vs : List Expr} {ck cv : CE} {c : CP} (hk : SE X cl W k ck) (hv : SE X cl W v cv) (hr : SP X cl W pos ks vs c) : SP X cl W pos (some k :: ks) (v :: vs) (pCons ck cv c) := by
  obtain ⟨trs, h1, h2⟩ := hr
  refine ⟨_, pps_cons hk hv h1, fun σ bs s e H Q S N h => ?_⟩
  refine ⟨bs, s, e, S, N, (Run.bnd h).imp fun x b1 t1 H1 g1 S1 k1 v r1 => ⟨b1, t1, e, S1, N.mono g1, (Run.bnd k1).imp fun y b2 t2 H2 g2 S2 k2 w r2 => ?_⟩⟩
  refine h2 σ b2 t2 e H2 _ S2 ((N.mono g1).mono g2) ((Run.bnd k2).imp fun ps b3 t3 H3 g3 S3 k3 vs r3 => ?_)
  have r1 := (r1.mono g2).mono g3
  cases x with
  | int i => exact Run.now S3 k3 _ (.cons ⟨r1.int_inv, r2.mono g3⟩ r3)
  | str z => exact Run.now S3 k3 _ (.cons ⟨r1.str_inv, r2.mono g3⟩ r3)
  | _ => exact (show False from k3).elim
theorem s_disp {pos : Pos} {keys : List (Option Expr)} {values : List Expr} {c : CP} (hp : SP X cl W pos keys values c) (hall : keys.all (·.isSome) = true := by rfl) (hl : keys.length = values.length := by rfl) (h0 : keys ≠ [] := by simp) (h15 : keys.length ≤ 15 := by decide) :
    SE X cl W (.Dict keys values pos) (cDisp c) := by
  obtain ⟨trs, h1, h2⟩ := hp
  refine PE.imp (pe_disp h1 hall hl h0 h15) fun σ H Q ⟨bs, s, e, S, N, h⟩ p hn => ?_
  have g := gr_box (o := .dK []) S hn
  have S1 : StR X.K cl (bs ++ [p]) (s ++ [.dk []]) (upd H p (.dK [])) := S.push hn (m := .dk []) (o := .dK []) .nil
  have h := (Run.bnd h).of_ok (a := .box s.length) rfl _ _ g S1
  refine h2 σ _ _ e _ _ S1 (N.mono g) ((Run.bnd h).imp fun ps b' t' H' g' S' h' vs r' => ?_)
  obtain ⟨kvs, ev, rk⟩ := psr_kv r'
  have hb : b'[s.length]? = some p := g'.at (push_at S)
  have h' : Run X.K cl (fun u dx H' => W u dx σ H') b' t' H' (endDisp (.box s.length) ps) (fun d bs' _ H' => ∀ v, Rp X.K cl bs' H' d v → Q v H') := h'
  cases q : t'[s.length]? with
  | none => exact (Run.of_no h' (by unfold endDisp; simp only [q])).elim
  | some m =>
    cases m with
    | dk zs =>
      cases zs with
      | cons z zs => exact (Run.of_no h' (by unfold endDisp; simp only [q])).elim
      | nil =>
        obtain ⟨p', o, e1, e2, e3⟩ := S'.at_ _ _ q
        rw [hb] at e1
        cases e1
        cases o with
        | dK ws =>
          cases (show KvR X.K cl b' H' [] ws from e3)
          by_cases c : ps.length ≤ 15
          · refine ⟨e2, kvs, ev, by rw [← kvr_len rk]; exact c, ?_⟩
            exact h'.of_ok (a := .box s.length) (t := t'.set s.length (.dk (mergeD [] ps))) (by unfold endDisp; simp only [q]; rw [if_pos c]) b' _ (gr_write hb e2) (S'.write hb e2 (m := .dk (mergeD [] ps)) (o := .dK (mergeK [] kvs)) (kvr_merge rk .nil)) _ (.box hb)
          · exact (Run.of_no h' (by unfold endDisp; simp only [q]; rw [if_neg c])).elim
        | _ => exact (show False from e3).elim
    | _ => exact (Run.of_no h' (by unfold endDisp; simp only [q])).elim
/-! d[k]: of a dict, else of a row -/
theorem kvr_val {K : PySem.W.Frag} {bs : List Addr} {H : Hp} {ps : List (Key × D)} {kvs : List (Key × V)} (h : KvR K cl bs H ps kvs) (k : Key) : (valD ps k = none ∧ valV kvs k = none) ∨ ∃ d v, valD ps k = some d ∧ valV kvs k = some v ∧ Rp K cl bs H d v := by
  unfold KvR at h
  induction h with
  | nil => exact .inl ⟨rfl, rfl⟩
  | @cons p q ps qs h t ih =>
    unfold valD valV at *
    by_cases c : q.1 = k
    · refine .inr ⟨p.2, q.2, ?_, ?_, h.2⟩
      · rw [List.find?_cons_of_pos (by rw [h.1]; simp [c])]; rfl
      · rw [List.find?_cons_of_pos (by simp [c])]; rfl
    · rw [List.find?_cons_of_neg (by rw [h.1]; simp [c]), List.find?_cons_of_neg (by simp [c])]
      exact ih
/-- a box that is a dict: what stands at its address -/
theorem dk_at {K : PySem.W.Frag} {bs : List Addr} {H : Hp} {s : Sto} {x : D} {v : V} {kvs : List (Key × D)} (S : StR K cl bs s H) (r : Rp K cl bs H x v) (q : dkAt s x = some kvs) : ∃ p ws, v = .ref p ∧ Rd H p (.dK ws) ∧ KvR K cl bs H kvs ws := by
  cases x with
  | box j =>
    unfold dkAt at q
    cases q4 : s[j]? with
    | none => simp only [q4] at q; cases q
    | some m =>
      cases r with
      | @box _ p hb2 =>
        obtain ⟨p', o, f1, f2, f3⟩ := S.at_ _ _ q4
        rw [f1] at hb2
        cases hb2
        cases m with
        | dk zs =>
          simp only [q4] at q
          cases q
          cases o with
          | dK ws => exact ⟨_, ws, rfl, .inl f2, f3⟩
          | _ => exact (show False from f3).elim
        | fd zs =>
          simp only [q4] at q
          cases q
          cases o with
          | frz ob u =>
            cases u with
            | dK ws => exact ⟨_, ws, rfl, .inr ⟨ob, f2⟩, f3⟩
            | _ => exact (show False from f3).elim
          | _ => exact (show False from f3).elim
        | _ => simp only [q4] at q; cases q
  | _ => cases q
theorem dk_wr {K : PySem.W.Frag} {bs : List Addr} {H : Hp} {s : Sto} {x : D} {v : V} {kvs : List (Key × D)} (S : StR K cl bs s H) (r : Rp K cl bs H x v) (q : dkWr s x = some kvs) : ∃ j p ws, x = .box j ∧ s[j]? = some (.dk kvs) ∧ v = .ref p ∧ bs[j]? = some p ∧ H p = some (.dK ws) ∧ KvR K cl bs H kvs ws := by
  cases x with
  | box j =>
    unfold dkWr at q
    cases q4 : s[j]? with
    | none => simp only [q4] at q; cases q
    | some m =>
      cases m with
      | dk zs =>
        simp only [q4] at q
        cases q
        obtain ⟨p, o, f1, f2, f3⟩ := S.at_ _ _ q4
        cases o with
        | dK ws =>
          cases r with
          | box hb2 =>
            rw [f1] at hb2
            cases hb2
            exact ⟨j, _, ws, rfl, q4, rfl, f1, f2, f3⟩
        | _ => exact (show False from f3).elim
      | _ => simp only [q4] at q; cases q
  | _ => cases q
theorem key_at {K : PySem.W.Frag} {bs : List Addr} {H : Hp} {y : D} {w : V} {k : Key} (r : Rp K cl bs H y w) (ky : keyOf y = some k) : w = kV k := by
  cases y with
  | int i => cases ky; exact r.int_inv
  | str z => cases ky; exact r.str_inv
  | _ => cases ky
theorem dget_rd {H : Hp} {a : Addr} {ws : List (Key × V)} {k : Key} (e : Rd H a (.dK ws)) : DGet H a (kV k) (valV ws k) := .inl ⟨ws, k, e, rfl, rfl⟩
theorem pe_or {e : Expr} {t1 t2 : TE} (h1 : PE X e t1) (h2 : PE X e t2) : PE X e (fun σ H Q => t1 σ H Q ∨ t2 σ H Q) := ⟨fun pins s σ H Q I h => h.elim (h1.run pins s σ H Q I) (h2.run pins s σ H Q I)⟩
theorem Run.eq {K : PySem.W.Frag} {W : Value → Option Addr → Hp → Prop} {bs : List Addr} {s : Sto} {H : Hp} {α : Type} {m : Cm α} {P : α → List Addr → Sto → Hp → Prop} (h : Run K cl W bs s H m P) : Run K cl W bs s H m (fun a bs' t H' => m s = .ok a t ∧ P a bs' t H') := by
  unfold Run at *
  cases e : m s with
  | ok a t => rw [e] at h; exact fun b1 H1 g S => ⟨rfl, h b1 H1 g S⟩
  | ex c fs t => rw [e] at h; exact h
  | no => rw [e] at h; exact h
theorem Run.same {K : PySem.W.Frag} {W : Value → Option Addr → Hp → Prop} {bs : List Addr} {s : Sto} {H : Hp} {α : Type} {m m' : Cm α} {P : α → List Addr → Sto → Hp → Prop} (e : m s = m' s) (h : Run K cl W bs s H m P) : Run K cl W bs s H m' P := by
  unfold Run at *
  rw [e] at h
  exact h
theorem ix2_way {ca cb : CE} {e : En} {s : Sto} : cBin dIx2 ca cb e s = cBin dIx ca cb e s ∨ ∃ x t y u kvs, ca e s = .ok x t ∧ cb e t = .ok y u ∧ dkAt u x = some kvs := by
  unfold cBin bnd
  cases h1 : ca e s with
  | no => exact .inl rfl
  | ex c fs t => exact .inl rfl
  | ok x t =>
    dsimp only
    cases h2 : cb e t with
    | no => exact .inl rfl
    | ex c fs t => exact .inl rfl
    | ok y u =>
      dsimp only
      cases h3 : dkAt u x with
      | none => exact .inl (by unfold dIx2; rw [h3])
      | some kvs => exact .inr ⟨x, t, y, u, kvs, rfl, h2, h3⟩
theorem s_ix2 {a b : Expr} {ca cb : CE} {pos : Pos} (hu : X.A.units + 1 < cLine) (ha : SE X cl W a ca) (hb : SE X cl W b cb) (hs : PlainIx b := by intro _ _; rfl) (hn : NoSl b := by intro _ _; rfl) : SE X cl W (.Subscript a b pos) (cBin dIx2 ca cb) :=
  PE.imp (pe_or (s_ix ha hb hs) (pe_dget hu ha hb hn)) fun σ H Q ⟨bs, s, e, S, N, h⟩ => by
    rcases ix2_way (ca := ca) (cb := cb) (e := e) (s := s) with q | ⟨x0, t0, y0, u0, kvs, q1, q2, q3⟩
    · exact .inl ⟨bs, s, e, S, N, Run.same q h⟩
    · refine .inr ⟨bs, s, e, S, N, (Run.bnd h).eq.imp fun x b1 t1 H1 g1 S1 ⟨e1, k1⟩ v r1 => ⟨b1, t1, e, S1, N.mono g1, (Run.bnd k1).eq.imp fun y b2 t2 H2 g2 S2 ⟨e2, k2⟩ w r2 => ?_⟩⟩
      rw [q1] at e1
      cases e1
      rw [q2] at e2
      cases e2
      obtain ⟨p, ws, ev, f2, f3⟩ := dk_at S2 (r1.mono g2) q3
      cases ky : keyOf y0 with
      | none => exact (Run.of_no k2 (by unfold dIx2; simp only [q3, ky])).elim
      | some k =>
        have hw := key_at r2 ky
        subst hw
        rcases kvr_val f3 k with ⟨z1, z2⟩ | ⟨d, v', z1, z2, z3⟩
        · exact (Run.of_no k2 (by unfold dIx2; simp only [q3, ky, z1])).elim
        · exact ⟨p, v', ev, by rw [← z2]; exact dget_rd f2, k2.of_ok (a := d) (t := u0) (by unfold dIx2; simp only [q3, ky, z1]) b2 H2 (Gr.refl _ _) S2 v' z3⟩
/-! d[k] = v: of a dict, else of a list -/
theorem set_or {r1 r2 : TSet} (h1 : PSet X r1) (h2 : PSet X r2) : PSet X (fun o i v H Q => r1 o i v H Q ∨ r2 o i v H Q) := fun pins s σ H o i v ov iv u Q I a b c h => h.elim (h1 pins s σ H o i v ov iv u Q I a b c) (h2 pins s σ H o i v ov iv u Q I a b c)
theorem pu_2 {K : PySem.W.Frag} : PuS K cl dPut2 (fun o i v H Q => rSetL o i v H Q ∨ rSetD o i v H Q) := by
  intro W bs s H x y z v w u Q S r1 r2 r3 h
  cases q : dkWr s x with
  | none => exact .inl (pu_lst W bs s H x y z v w u Q S r1 r2 r3 (Run.same (by unfold dPut2; simp only [q]) h))
  | some kvs =>
    obtain ⟨j, p, ws, ex, q4, ev, f1, f2, f3⟩ := dk_wr S r1 q
    subst ex ev
    cases ky : keyOf y with
    | none => exact (Run.of_no h (by unfold dPut2; simp only [q, ky])).elim
    | some k =>
      have hw := key_at r2 ky
      subst hw
      by_cases c : kvs.length < big
      · refine .inr ⟨p, _, rfl, .inl ⟨ws, k, f2, rfl, ?_, rfl⟩, ?_⟩
        · rw [← kvr_len f3]
          exact Nat.lt_of_lt_of_le c (big_line (Nat.le_refl _))
        · exact h.of_ok (a := ()) (t := s.set j (.dk (putD kvs k z))) (by unfold dPut2; simp only [q, ky]; rw [if_pos c]) bs _ (gr_write f1 f2) (S.write f1 f2 (m := .dk (putD kvs k z)) (o := .dK (putK ws k u)) (kvr_put f3 k r3))
      · exact (Run.of_no h (by unfold dPut2; simp only [q, ky]; rw [if_neg c])).elim
theorem set_2 (hu : X.A.units + 1 < cLine) : PSet X (fun o i v H Q => rSetL o i v H Q ∨ rSetD o i v H Q) := set_or set_list (set_dict hu)
/-! d.get(k, x) of a dict -/
theorem s_getD {o e f : Expr} {co ce cf : CE} {apos cpos : Pos} (hu : X.A.units + 1 < cLine) (ho : SE X cl W o co) (he : SE X cl W e ce) (hf : SE X cl W f cf) (m : M2 X o "get" apos e f cpos) : SE X cl W (.Call (.Attribute o "get" apos) [e, f] [] cpos) (cGetD co ce cf) :=
  PE.imp (pe_dget2 hu ho he hf m) fun σ H Q ⟨bs, s, e, S, N, h⟩ => by
    refine ⟨bs, s, e, S, N, (Run.bnd h).imp fun x b1 t1 H1 g1 S1 h1 v r1 => ?_⟩
    cases q : dkAt t1 x with
    | none => exact (Run.of_no (Run.bnd h1) (by unfold chkD; simp only [q])).elim
    | some kvs =>
      have h1 := (Run.bnd h1).of_ok (a := ()) (t := t1) (by unfold chkD; simp only [q]) b1 H1 (Gr.refl _ _) S1
      obtain ⟨p, ws, ev, f2, f3⟩ := dk_at S1 r1 q
      refine ⟨p, ev, .inl ⟨ws, f2⟩, b1, t1, e, S1, N.mono g1, (Run.bnd h1).imp fun y b2 t2 H2 g2 S2 h2 w r2 => ⟨b2, t2, e, S2, (N.mono g1).mono g2, (Run.bnd h2).imp fun z b3 t3 H3 g3 S3 h3 u r3 => ?_⟩⟩
      cases q3 : dkAt t3 x with
      | none => exact (Run.of_no h3 (by unfold dGetD; simp only [q3])).elim
      | some kvs3 =>
        cases ky : keyOf y with
        | none => exact (Run.of_no h3 (by unfold dGetD; simp only [q3, ky])).elim
        | some k =>
          have rx := (r1.mono g2).mono g3
          obtain ⟨p', ws3, ev3, f4, f5⟩ := dk_at S3 rx q3
          rw [ev] at ev3
          cases ev3
          have hw := key_at (r2.mono g3) ky
          subst hw
          have fin := h3.of_ok (a := (valD kvs3 k).getD z) (t := t3) (by unfold dGetD; simp only [q3, ky]) b3 H3 (Gr.refl _ _) S3
          refine ⟨valV ws3 k, dget_rd f4, fin _ ?_⟩
          rcases kvr_val f5 k with ⟨z1, z2⟩ | ⟨d, v', z1, z2, z3⟩
          · rw [z1, z2]; exact r3
          · rw [z1, z2]; exact z3
/-! k in d: of a dict, else of a row -/
def tDInB (neg : Bool) (ty td : TE) : TE := fun σ H Q => ty σ H fun y H1 => td σ H1 fun x H2 => ∃ a o, x = .ref a ∧ DGet H2 a y o ∧ Q (.bl (if neg then !o.isSome else o.isSome)) H2
theorem in2_way {neg : Bool} {ca cb : CE} {e : En} {s : Sto} : cBin (dIn2 neg) ca cb e s = cBin (dIn neg) ca cb e s ∨ ∃ x t y u kvs, ca e s = .ok x t ∧ cb e t = .ok y u ∧ dkAt u y = some kvs := by
  unfold cBin bnd
  cases h1 : ca e s with
  | no => exact .inl rfl
  | ex c fs t => exact .inl rfl
  | ok x t =>
    dsimp only
    cases h2 : cb e t with
    | no => exact .inl rfl
    | ex c fs t => exact .inl rfl
    | ok y u =>
      dsimp only
      cases h3 : dkAt u y with
      | none => exact .inl (by unfold dIn2; rw [h3])
      | some kvs => exact .inr ⟨x, t, y, u, kvs, rfl, h2, h3⟩
theorem in2_of {K : PySem.W.Frag} {neg : Bool} {ca cb : CE} {σ : L2.St} {H : Hp} {Q : VK} (h : TEof K cl W (cBin (dIn2 neg) ca cb) σ H Q) : tOp (rIn K neg) (TEof K cl W ca) (TEof K cl W cb) σ H Q ∨ tDInB neg (TEof K cl W ca) (TEof K cl W cb) σ H Q := by
  obtain ⟨bs, s, e, S, N, h⟩ := h
  rcases in2_way (neg := neg) (ca := ca) (cb := cb) (e := e) (s := s) with q | ⟨x0, t0, y0, u0, kvs, q1, q2, q3⟩
  · exact .inl (tOp_of ops_in ⟨bs, s, e, S, N, Run.same q h⟩)
  · refine .inr ⟨bs, s, e, S, N, (Run.bnd h).eq.imp fun x b1 t1 H1 g1 S1 ⟨e1, k1⟩ v r1 => ⟨b1, t1, e, S1, N.mono g1, (Run.bnd k1).eq.imp fun y b2 t2 H2 g2 S2 ⟨e2, k2⟩ w r2 => ?_⟩⟩
    rw [q1] at e1
    cases e1
    rw [q2] at e2
    cases e2
    obtain ⟨p, ws, ev, f2, f3⟩ := dk_at S2 r2 q3
    cases ky : keyOf x0 with
    | none => exact (Run.of_no k2 (by unfold dIn2; simp only [q3, ky])).elim
    | some k =>
      have hw := key_at (r1.mono g2) ky
      subst hw
      have fin := k2.of_ok (a := .bl (if neg then !(valD kvs k).isSome else (valD kvs k).isSome)) (t := u0) (by unfold dIn2; simp only [q3, ky]) b2 H2 (Gr.refl _ _) S2
      refine ⟨p, valV ws k, ev, dget_rd f2, ?_⟩
      have e3 : (valV ws k).isSome = (valD kvs k).isSome := by
        rcases kvr_val f3 k with ⟨z1, z2⟩ | ⟨d, v', z1, z2, z3⟩
        · rw [z1, z2]; rfl
        · rw [z1, z2]; rfl
      rw [e3]
      exact fin _ (.bl _)
theorem s_in2 {a b : Expr} {ca cb : CE} {pos : Pos} (hu : X.A.units + 1 < cLine) (ha : SE X cl W a ca) (hb : SE X cl W b cb) (hm : behindInMarks .In b = false) : SE X cl W (.Compare a [.In] [b] pos) (cBin (dIn2 false) ca cb) :=
  PE.imp (pe_or (pe_cmpR op_in_seq ha hb hm) (pe_cmp (pc_din hu ha hb) hm)) fun σ H Q h => in2_of h
theorem s_nin2 {a b : Expr} {ca cb : CE} {pos : Pos} (hu : X.A.units + 1 < cLine) (ha : SE X cl W a ca) (hb : SE X cl W b cb) (hm : behindInMarks .NotIn b = false) : SE X cl W (.Compare a [.NotIn] [b] pos) (cBin (dIn2 true) ca cb) :=
  PE.imp (pe_or (pe_cmpR op_notIn_seq ha hb hm) (pe_cmp (pc_dnotin hu ha hb) hm)) fun σ H Q h => in2_of h
theorem pt_or {e : Expr} {t1 t2 : TT} (h1 : PT X e t1) (h2 : PT X e t2) : PT X e (fun σ H Q => t1 σ H Q ∨ t2 σ H Q) := ⟨fun pins s σ H Q I h => h.elim (h1.run pins s σ H Q I) (h2.run pins s σ H Q I)⟩
theorem t_in2 {a b : Expr} {ca cb : CE} {pos : Pos} (hu : X.A.units + 1 < cLine) (ha : SE X cl W a ca) (hb : SE X cl W b cb) (hm : behindInMarks .In b = false) : ST X cl W (.Compare a [.In] [b] pos) (tE (cBin (dIn2 false) ca cb)) :=
  PT.imp (pt_or (pt_cmpR op_in_seq ha hb hm) (pt_cmp (pc_din hu ha hb) hm)) fun σ H Q h => tTest_of (t := fun σ H Q => tOp (rIn X.K false) (TEof X.K cl W ca) (TEof X.K cl W cb) σ H Q ∨ tDInB false (TEof X.K cl W ca) (TEof X.K cl W cb) σ H Q) (fun Q h => in2_of h) h
theorem t_nin2 {a b : Expr} {ca cb : CE} {pos : Pos} (hu : X.A.units + 1 < cLine) (ha : SE X cl W a ca) (hb : SE X cl W b cb) (hm : behindInMarks .NotIn b = false) : ST X cl W (.Compare a [.NotIn] [b] pos) (tE (cBin (dIn2 true) ca cb)) :=
  PT.imp (pt_or (pt_cmpR op_notIn_seq ha hb hm) (pt_cmp (pc_dnotin hu ha hb) hm)) fun σ H Q h => tTest_of (t := fun σ H Q => tOp (rIn X.K true) (TEof X.K cl W ca) (TEof X.K cl W cb) σ H Q ∨ tDInB true (TEof X.K cl W ca) (TEof X.K cl W cb) σ H Q) (fun Q h => in2_of h) h
theorem u1_of {n : Nat} (h : n + 64 < cLine) : n + 1 < cLine := by omega
end
end G

set_option Elab.async false
set_option linter.all false
set_option maxRecDepth 100000
set_option maxHeartbeats 4000000
/-! G: unpacking of lists, objects of own classes, more of dicts (soundness; the data level is in Gd) -/
namespace G
open PySem L2 PySem.Spec PyProof.Rows
section
variable {X : Cx} {cl : Str → Addr} {W : WX}
/-! a, b = xs, of a tuple or a list -/
theorem pg_or {e : Expr} {t1 t2 : TG} (h1 : PG X e t1) (h2 : PG X e t2) : PG X e (fun v σ H Q => t1 v σ H Q ∨ t2 v σ H Q) := ⟨fun pins s σ H v u Q I r h => h.elim (h1.run pins s σ H v u Q I r) (h2.run pins s σ H v u Q I r)⟩
theorem stAll_len : ∀ {is : List Nat} {ds : List D} {e e' : En}, stAll e is ds = some e' → ds.length = is.length
  | [], [], _, _, _ => rfl
  | [], _ :: _, _, _, h => by cases h
  | _ :: _, [], _, _, h => by cases h
  | _ :: is, _ :: ds, _, _, h => by simp [stAll_len (is := is) (ds := ds) h]
theorem ss_unp2 {es : List Expr} {k n : Nat} {is : List Nat} {e : Expr} {c : CE} {pt pos : Pos} (hc : X.calm = true) (hg : PGs X es (TGsOf X.K cl is)) (he : SE X cl W e c) (hl : is.length = n := by rfl) (hn : (assignEach es X.env).length = n := by rfl) (hst : (assignEach es X.env).findIdx? (·.1) = none := by rfl)
    (hs : swapsWithSole [.Tuple es k pt] e pos.line X.env = pure false := by rfl) (hw : swappedStores [.Tuple es k pt] e X.env = pure none := by rfl) (h1 : (assignEach [.Tuple es k pt] X.env).map (·.2) = [assign (.Tuple es k pt) X.env] := by rfl) :
    SS X cl W (.Assign [.Tuple es k pt] e pos) (sUnp2 is c) :=
  PS.imp (ps_asg he (pg_or (pg_tup hc hg hn hst) (pg_unl hc hg hn hst)) hs hw h1) fun E σ H ⟨bs, s, e, S, N, h⟩ => by
    refine ⟨bs, s, e, S, N, (Run.lft N h).imp fun d b1 t1 H1 g1 S1 k v r => ?_⟩
    have N1 := N.mono g1
    cases q : itemsOf t1 d with
    | none => exact (Run.of_no k (by simp only [q])).elim
    | some ds =>
      cases q2 : stAll e is ds with
      | none => exact (Run.of_no k (by simp only [q, q2])).elim
      | some e' =>
        have fin : ∀ σ', EnR X.K cl b1 H1 e' σ' → E.nx σ' H1 := fun σ' N' => (k.of_ok (a := Fl.nx e') (t := t1) (by simp only [q, q2]) b1 H1 (Gr.refl _ _) S1) σ' N'
        have hlen := stAll_len q2
        cases d with
        | tup xs =>
          cases q
          cases r with
          | @tup _ p vs q1 q3 => exact .inl ⟨p, vs, rfl, sqT_mono (fun a o e => (hid_some e).2) q1, by rw [← q3.length, hlen, hl], b1, e, _, e', N1, q3, q2, fin⟩
        | lst xs =>
          cases q
          cases r with
          | @lst _ p vs q1 q3 => exact .inr ⟨p, vs, rfl, (fzL_mono (fun a o e => (hid_some e).2) q1).sq, by rw [← q3.length, hlen, hl], b1, e, _, e', N1, q3, q2, fin⟩
        | box j =>
          obtain ⟨p, vs, e1, _, e2, e3⟩ := S1.lst (show lAt t1 j = some ds from q) r
          exact .inr ⟨p, vs, e1, SqL.of e2, by rw [← e3.length, hlen, hl], b1, e, _, e', N1, e3, q2, fin⟩
        | _ => cases q
/-! objects -/
theorem obj_at {K : PySem.W.Frag} {bs : List Addr} {H : Hp} {s : Sto} {x : D} {v : V} {c : Str} {fs : List (Str × D)} (S : StR K cl bs s H) (r : Rp K cl bs H x v) (q : objAt c s x = some fs) :
    ∃ j p dx gs, x = .box j ∧ v = .ref p ∧ bs[j]? = some p ∧ s[j]? = some (.ins c fs) ∧ H p = some (.ins (cl c) dx gs) ∧ FsR K cl bs H fs gs := by
  cases x with
  | box j =>
    unfold objAt at q
    cases q4 : s[j]? with
    | none => simp only [q4] at q; cases q
    | some m =>
      cases m with
      | ins c' zs =>
        simp only [q4] at q
        split at q
        · cases q
          rename_i hc
          subst hc
          obtain ⟨p, o, f1, f2, f3⟩ := S.at_ _ _ q4
          cases o with
          | ins C dx gs =>
            obtain ⟨h1, h2⟩ := (show C = cl c' ∧ FsR K cl bs H _ gs from f3)
            subst h1
            cases r with
            | box hb2 =>
              rw [f1] at hb2
              cases hb2
              exact ⟨j, _, dx, gs, rfl, rfl, f1, q4, f2, h2⟩
          | _ => exact (show False from f3).elim
        · cases q
      | _ => simp only [q4] at q; cases q
  | _ => cases q
theorem fsr_lk {K : PySem.W.Frag} {bs : List Addr} {H : Hp} {fs : List (Str × D)} {gs : List (Str × V)} (h : FsR K cl bs H fs gs) (f : Str) : (lkF fs f = none ∧ gs.lookup f = none) ∨ ∃ d v, lkF fs f = some d ∧ gs.lookup f = some v ∧ Rp K cl bs H d v := by
  unfold FsR at h
  induction h with
  | nil => exact .inl ⟨rfl, rfl⟩
  | @cons p q ps qs h t ih =>
    obtain ⟨p1, p2⟩ := p
    obtain ⟨q1, q2⟩ := q
    obtain ⟨h1, h2⟩ := h
    dsimp only at h1 h2
    subst h1
    unfold lkF List.lookup
    by_cases c : p1 = f
    · subst c
      refine .inr ⟨p2, q2, by rw [if_pos rfl], by simp, h2⟩
    · have c' : (f == p1) = false := by simpa using fun e => c e.symm
      rw [if_neg c]
      simp only [c']
      exact ih
theorem fsr_put {K : PySem.W.Frag} {bs : List Addr} {H : Hp} {fs : List (Str × D)} {gs : List (Str × V)} (h : FsR K cl bs H fs gs) (f : Str) {d : D} {v : V} (r : Rp K cl bs H d v) : FsR K cl bs H (putFD f d fs) (putF f v gs) := by
  unfold FsR at *
  induction h with
  | nil => exact .cons ⟨rfl, r⟩ .nil
  | @cons p q ps qs h t ih =>
    obtain ⟨p1, p2⟩ := p
    obtain ⟨q1, q2⟩ := q
    obtain ⟨h1, h2⟩ := h
    dsimp only at h1 h2
    subst h1
    unfold putFD putF
    by_cases c : p1 = f
    · rw [if_pos c, if_pos c]; exact .cons ⟨rfl, r⟩ t
    · rw [if_neg c, if_neg c]; exact .cons ⟨rfl, h2⟩ ih
theorem fsr_len {K : PySem.W.Frag} {bs : List Addr} {H : Hp} {fs : List (Str × D)} {gs : List (Str × V)} (h : FsR K cl bs H fs gs) : fs.length = gs.length := by
  unfold FsR at h
  induction h with
  | nil => rfl
  | cons h t ih => rw [List.length_cons, List.length_cons, ih]
theorem s_fld {c f : Str} {o : Expr} {co : CE} {pos : Pos} (kc : Cls X.K (cl c)) (kn : NoAttr X.K (cl c) f) (ho : SE X cl W o co) (hb : attributeBase o f X.env (eval o X.env) = eval o X.env := by rfl) : SE X cl W (.Attribute o f pos) (cUn (dFld c f) co) :=
  PE.imp (pe_fld ho hb) fun σ H Q ⟨bs, s, e, S, N, h⟩ => by
    refine ⟨bs, s, e, S, N, (Run.bnd h).imp fun x b1 t1 H1 g1 S1 k v r => ?_⟩
    cases q : objAt c t1 x with
    | none => exact (Run.of_no k (by unfold dFld; simp only [q])).elim
    | some fs =>
      obtain ⟨j, p, dx, gs, ex, ev, hb, _, hp, hf⟩ := obj_at S1 r q
      rcases fsr_lk hf f with ⟨z1, z2⟩ | ⟨d, w, z1, z2, z3⟩
      · exact (Run.of_no k (by unfold dFld; simp only [q, z1])).elim
      · exact ⟨p, cl c, dx, gs, w, ev, hp, kc, kn, z2, k.of_ok (a := d) (t := t1) (by unfold dFld; simp only [q, z1]) b1 H1 (Gr.refl _ _) S1 w z3⟩
theorem ss_fld {c f : Str} {o e : Expr} {co ce : CE} {pos pos' : Pos} (kc : Cls X.K (cl c)) (kn : NoAttr X.K (cl c) f) (ho : SE X cl W o co) (he : SE X cl W e ce) (hs : swapsWith e (some (.Attribute o f pos')) pos.line X.env = pure false := by rfl) : SS X cl W (.Assign [.Attribute o f pos'] e pos) (sFld c f co ce) :=
  PS.imp (ps_fld ho he hs) fun E σ H ⟨bs, s, e, S, N, h⟩ => by
    refine ⟨bs, s, e, S, N, (Run.lft N h).imp fun z b1 t1 H1 g1 S1 k v r => ⟨b1, t1, e, S1, N.mono g1, (Run.lft (N.mono g1) k).imp fun x b2 t2 H2 g2 S2 k2 w r2 => ?_⟩⟩
    have N2 := (N.mono g1).mono g2
    have k2 := Run.lft N2 k2
    cases q : objAt c t2 x with
    | none => exact (Run.of_no k2 (by unfold dSetF; simp only [q])).elim
    | some fs =>
      obtain ⟨j, p, dx, gs, ex, ev, hb, hj, hp, hf⟩ := obj_at S2 r2 q
      subst ex
      by_cases hl : fs.length < 1000
      · refine ⟨p, cl c, dx, gs, ev, hp, kc, kn, by rw [← fsr_len hf]; exact hl, ?_⟩
        have g3 : Gr b2 H2 b2 (upd H2 p (.ins (cl c) dx (putF f v gs))) := gr_write hb hp
        have S3 : StR X.K cl b2 (t2.set j (.ins c (putFD f z fs))) (upd H2 p (.ins (cl c) dx (putF f v gs))) := S2.write hb hp (m := .ins c (putFD f z fs)) (o := .ins (cl c) dx (putF f v gs)) ⟨rfl, fsr_put hf f (r.mono g2)⟩
        have k3 := k2.of_ok (a := ()) (t := t2.set j (.ins c (putFD f z fs))) (by unfold dSetF; simp only [q]; rw [if_pos hl]) b2 _ g3 S3
        exact (Run.now S3 (a := Fl.nx e) (P := FlP X.K cl W E) k3) _ (N2.mono g3)
      · exact (Run.of_no k2 (by unfold dSetF; simp only [q]; rw [if_neg hl])).elim
/-- a method of a class, in a world where none raises -/
structure DfM (Y : Wd) (c m : Str) (k n : Nat) (g : List D → Cm D) : Prop where
  ar : ∀ ds, ds.length ≠ n → ∀ s, g ds s = .no
  ex : ∃ f fd ps, Meth Y.K (Y.cl c) m f ∧ Binds Y.K fd ps [] ∧ ps.length = n ∧ FnOk Y.P Y.w Y.K Y.mg Y.base CX0 k f fd ps (spOf Y.K Y.cl (fun _ => F0) n g)
/-- a class that is made -/
structure DfC (Y : Wd) (c : Str) (k n : Nat) (g : List D → Cm D) : Prop where
  ar : ∀ ds, ds.length ≠ n → ∀ s, g ds s = .no
  ex : ∃ f fd ps, Y.mg c = some (.ref (Y.cl c)) ∧ Mk Y.K (Y.cl c) f ∧ Binds Y.K fd ps [] ∧ ps.length = n ∧ FnOk Y.P Y.w Y.K Y.mg Y.base CX0 k f fd ps (spOf Y.K Y.cl (fun _ => F0) n g)
theorem dfm_mk {Y : Wd} {c m x qual : Str} {st : Stmt} {f : Addr} {fd : FuncData} {N ps : List Str} {k n l : Nat} {b : CS} (hCX : Y.CX = CX0) (hF : Y.F = fun _ => F0) (F : Fun Y.K x qual st f fd) (S : FnScope N ps (defScope st)) (hm : Meth Y.K (Y.cl c) m f) (hb : Binds Y.K fd ps [])
    (hn : ps.length = n) (hN : N.length = l)
    (body : ∀ (cdv : Value) (A : Around) (outer : List PySem.Env) (s : Shared) (H : Hp) (E : XK), Room k (A.deeper (envOfC qual (defScope st) s.heap.objs.size f cdv)) →
      SSs (cxOf CX0 Y.P Y.w Y.K Y.mg Y.base N qual (defScope st) f cdv A outer s H E).nox Y.cl W0 (defBody st) b) : DfM Y c m (k + 1) n (dfn n l b) :=
  ⟨fun ds h s => by unfold dfn; rw [if_neg h]; rfl, f, fd, ps, hm, hb, hn, by
    have q := fn_mk hCX hF F S hn hN body
    rw [hCX, hF] at q
    exact q⟩
theorem dfc_mk {Y : Wd} {c x qual : Str} {st : Stmt} {f : Addr} {fd : FuncData} {N ps : List Str} {k n l : Nat} {b : CS} (hCX : Y.CX = CX0) (hF : Y.F = fun _ => F0) (F : Fun Y.K x qual st f fd) (S : FnScope N ps (defScope st)) (hmg : Y.mg c = some (.ref (Y.cl c))) (hm : Mk Y.K (Y.cl c) f) (hb : Binds Y.K fd ps [])
    (hn : ps.length = n) (hN : N.length = l)
    (body : ∀ (cdv : Value) (A : Around) (outer : List PySem.Env) (s : Shared) (H : Hp) (E : XK), Room k (A.deeper (envOfC qual (defScope st) s.heap.objs.size f cdv)) →
      SSs (cxOf CX0 Y.P Y.w Y.K Y.mg Y.base N qual (defScope st) f cdv A outer s H E).nox Y.cl W0 (defBody st) b) : DfC Y c (k + 1) n (dfn n l b) :=
  ⟨fun ds h s => by unfold dfn; rw [if_neg h]; rfl, f, fd, ps, hmg, hm, hb, hn, by
    have q := fn_mk hCX hF F S hn hN body
    rw [hCX, hF] at q
    exact q⟩
/-- the law's promise, wherever the classes stand -/
def spAny (K : PySem.W.Frag) (F : XK → XK) (n : Nat) (g : List D → Cm D) : Sp := fun vs H Q E => ∀ cl, spOf K cl F n g vs H Q E
variable {P : Program} {w : World} {K : PySem.W.Frag} {mg : Str → Option Value} {base : Heap} {c m : Str} {k n : Nat} {g : List D → Cm D} {o e0 : Expr} {es : List Expr} {co : CE} {aa : CA} {p pos apos : Pos}
theorem s_meth {pl : Sem Bool} (d : DfM (wz P w K mg base cl) c m k n g) (i : Is X P w K mg base) (hr : Room k X.A) (kc : Cls K (cl c)) (ho : SE X cl W o co) (ha : SA X cl W (e0 :: es) aa)
    (hst : starEach (e0 :: es) X.env = (false, eval e0 X.env) :: starEach es X.env := by rfl) (hpl : (backTo pos (starEach es X.env)).any (·.1) = false := by rfl)
    (ht : eval (.Call (.Attribute o m apos) (e0 :: es) [] pos) X.env = (do
      let ov ← eval o X.env
      standAt apos.atName
      let (f, first) ← holding [ov] (getMethod ov m pl)
      callWith pos f first (backTo pos (starEach (e0 :: es) X.env)) (backToKw pos (keywordEach [] X.env))) := by rfl) : SE X cl W (.Call (.Attribute o m apos) (e0 :: es) [] pos) (cMth c m g co aa) := by
  obtain ⟨e1, e2, e3, e4, e5⟩ := i
  obtain ⟨Xp, Xw, XK, Xmg, Xb, XA, XN, Xs0, XH0, Xenv, Xo, Xst, Xex, Xfn, Xc, Xpn, Xxe⟩ := X
  simp only at e1 e2 e3 e4 e5
  subst e1 e2 e3 e4 e5
  obtain ⟨f, fd, ps, hm, hb, hl, F⟩ := d.ex
  refine PE.imp (pe_meth (E := fun _ _ _ => False) (pl := pl) ho kc hm F hr hb .nil pass0 ha hst hpl ht) fun σ H Q ⟨bs, s, e, S, N, h⟩ => ?_
  refine ⟨bs, s, e, S, N, (Run.bnd h).imp fun x b1 t1 H1 g1 S1 h1 v r1 => ?_⟩
  cases q : objAt c t1 x with
  | none => exact (Run.of_no (Run.bnd h1) (by unfold chkO; simp only [q])).elim
  | some fs =>
    obtain ⟨j, p, dx, gs, ex, ev, hbj, _, hp, hf⟩ := obj_at S1 r1 q
    rcases fsr_lk hf m with ⟨z1, z2⟩ | ⟨d, w, z1, z2, z3⟩
    rotate_left
    · exact (Run.of_no (Run.bnd h1) (by unfold chkO; simp only [q]; rw [if_neg (by rw [z1]; simp)])).elim
    have h1 := (Run.bnd h1).of_ok (a := ()) (t := t1) (by unfold chkO; simp only [q]; rw [if_pos z1]) b1 H1 (Gr.refl _ _) S1
    refine ⟨p, dx, gs, ev, hp, z2, b1, t1, e, S1, N.mono g1, (Run.bnd h1).imp fun ds b2 t2 H2 g2 S2 h2 vs r2 => ?_⟩
    show spOf _ _ _ n g (v :: (vs ++ [])) H2 Q _
    rw [List.append_nil]
    by_cases hlen : (x :: ds).length = n
    · exact ⟨b2, t2, x :: ds, hlen, S2, .cons (r1.mono g2) r2, h2.pur⟩
    · exact (Run.of_no h2.pur (d.ar _ hlen t2)).elim
theorem s_meth0 {pl : Sem Bool} (d : DfM (wz P w K mg base cl) c m k n g) (i : Is X P w K mg base) (hr : Room k X.A) (kc : Cls K (cl c)) (ho : SE X cl W o co)
    (ht : eval (.Call (.Attribute o m apos) [] [] pos) X.env = (do
      let ov ← eval o X.env
      standAt apos.atName
      let (f, first) ← holding [ov] (getMethod ov m pl)
      callWith pos f first (backTo pos (starEach [] X.env)) (backToKw pos (keywordEach [] X.env))) := by rfl) : SE X cl W (.Call (.Attribute o m apos) [] [] pos) (cMth c m g co aNil) := by
  obtain ⟨e1, e2, e3, e4, e5⟩ := i
  obtain ⟨Xp, Xw, XK, Xmg, Xb, XA, XN, Xs0, XH0, Xenv, Xo, Xst, Xex, Xfn, Xc, Xpn, Xxe⟩ := X
  simp only at e1 e2 e3 e4 e5
  subst e1 e2 e3 e4 e5
  obtain ⟨f, fd, ps, hm, hb, hl, F⟩ := d.ex
  refine PE.imp (pe_meth0 (E := fun _ _ _ => False) (pl := pl) ho kc hm F hr hb .nil pass0 ht) fun σ H Q ⟨bs, s, e, S, N, h⟩ => ?_
  refine ⟨bs, s, e, S, N, (Run.bnd h).imp fun x b1 t1 H1 g1 S1 h1 v r1 => ?_⟩
  cases q : objAt c t1 x with
  | none => exact (Run.of_no (Run.bnd h1) (by unfold chkO; simp only [q])).elim
  | some fs =>
    obtain ⟨j, p, dx, gs, ex, ev, hbj, _, hp, hf⟩ := obj_at S1 r1 q
    rcases fsr_lk hf m with ⟨z1, z2⟩ | ⟨d, w, z1, z2, z3⟩
    rotate_left
    · exact (Run.of_no (Run.bnd h1) (by unfold chkO; simp only [q]; rw [if_neg (by rw [z1]; simp)])).elim
    have h1 := (Run.bnd h1).of_ok (a := ()) (t := t1) (by unfold chkO; simp only [q]; rw [if_pos z1]) b1 H1 (Gr.refl _ _) S1
    refine ⟨p, dx, gs, ev, hp, z2, ?_⟩
    unfold tNil
    dsimp only [List.append_nil]
    have h2 := Run.now S1 (Run.bnd h1)
    by_cases hlen : ([x] : List D).length = n
    · exact ⟨b1, t1, [x], hlen, S1, .cons r1 .nil, h2.pur⟩
    · exact (Run.of_no h2.pur (d.ar _ hlen t1)).elim
theorem gr_mk {bs : List Addr} {s : Sto} {H : Hp} {x dx : Addr} {o1 o2 : HO} (S : StR K cl bs s H) (h1 : H x = none) (h2 : H dx = none) (n : dx ≠ x) : Gr bs H (bs ++ [x]) (upd (upd H dx o1) x o2) :=
  (gr_new h2).trans (gr_box (S.new h2) (by rw [upd_ne n.symm]; exact h1))
theorem make_of {bs : List Addr} {s : Sto} {H : Hp} {Q : VK} {ds : List D} {vs : List V} {W' : Value → Option Addr → Hp → Prop} (d : DfC (wz P w K mg base cl) c k n g) (S : StR K cl bs s H) (r : RpL K cl bs H ds vs)
    (h : Run K cl W' bs s H (bnd (alloc (.ins c [])) fun b => bnd (pur (g (b :: ds))) (retB b)) fun d bs' _ H' => ∀ v, Rp K cl bs' H' d v → Q v H') (x dx : Addr) (h1 : H x = none) (h2 : H dx = none) (h3 : dx ≠ x) :
    spOf K cl (fun _ => F0) n g (.ref x :: (vs ++ [])) (upd (upd H dx (.own x)) x (.ins (cl c) dx [])) (fun v H2 => v = .non ∧ Q (.ref x) H2) fun _ _ _ => False := by
  have g := gr_mk (o1 := .own x) (o2 := .ins (cl c) dx []) S h1 h2 h3
  have S1 : StR K cl (bs ++ [x]) (s ++ [.ins c []]) (upd (upd H dx (.own x)) x (.ins (cl c) dx [])) := (S.new h2).push (m := .ins c []) (o := .ins (cl c) dx []) (by rw [upd_ne h3.symm]; exact h1) ⟨rfl, .nil⟩
  have h := (Run.bnd h).of_ok (a := .box s.length) rfl _ _ g S1
  rw [List.append_nil]
  have hb : (bs ++ [x])[s.length]? = some x := push_at S
  have r2 : RpL K cl (bs ++ [x]) (upd (upd H dx (.own x)) x (.ins (cl c) dx [])) (.box s.length :: ds) (.ref x :: vs) := .cons (.box hb) (r.mono g)
  by_cases hlen : (D.box s.length :: ds).length = n
  · refine ⟨_, _, _, hlen, S1, r2, (Run.pur (Run.bnd h)).imp fun z b2 t2 H2 g2 S2 h2 v r3 => ?_⟩
    cases z with
    | non => exact ⟨r3.non_inv, (Run.now S2 (show Run K cl W' b2 t2 H2 (ret (D.box s.length)) _ from h2)) _ (.box (g2.at hb))⟩
    | _ => exact (show False from h2).elim
  · exact (Run.of_no (Run.pur (Run.bnd h)) (d.ar _ hlen _)).elim
theorem s_make (d : DfC (wz P w K mg base cl) c k n g) (i : Is X P w K mg base) (hr : Room (k + 1) X.A) (hg : Gl X c) (ha : SA X cl W (e0 :: es) aa) (hdb : (c == ("__debug__" : Str)) = false := by decide)
    (he : starEach (e0 :: es) X.env = (false, eval e0 X.env) :: starEach es X.env := by rfl) (hpl : (backTo pos (starEach es X.env)).any (·.1) = false := by rfl) : SE X cl W (.Call (.Name c p) (e0 :: es) [] pos) (cMake c g aa) := by
  obtain ⟨e1, e2, e3, e4, e5⟩ := i
  obtain ⟨Xp, Xw, XK, Xmg, Xb, XA, XN, Xs0, XH0, Xenv, Xo, Xst, Xex, Xfn, Xc, Xpn, Xxe⟩ := X
  simp only at e1 e2 e3 e4 e5
  subst e1 e2 e3 e4 e5
  obtain ⟨f, fd, ps, hmg, M, hb, hl, F⟩ := d.ex
  refine PE.imp (pe_make (E := fun _ _ _ => False) M F hr hg hmg hb .nil pass0 ha hdb he hpl) fun σ H Q ⟨bs, s, e, S, N, h⟩ => ?_
  exact ⟨bs, s, e, S, N, (Run.bnd h).imp fun ds b1 t1 H1 g1 S1 h1 vs r1 x dx z1 z2 z3 => make_of d S1 r1 h1 x dx z1 z2 z3⟩
theorem s_make0 (d : DfC (wz P w K mg base cl) c k n g) (i : Is X P w K mg base) (hr : Room (k + 1) X.A) (hg : Gl X c) (hdb : (c == ("__debug__" : Str)) = false := by decide) : SE X cl W (.Call (.Name c p) [] [] pos) (cMake c g aNil) := by
  obtain ⟨e1, e2, e3, e4, e5⟩ := i
  obtain ⟨Xp, Xw, XK, Xmg, Xb, XA, XN, Xs0, XH0, Xenv, Xo, Xst, Xex, Xfn, Xc, Xpn, Xxe⟩ := X
  simp only at e1 e2 e3 e4 e5
  subst e1 e2 e3 e4 e5
  obtain ⟨f, fd, ps, hmg, M, hb, hl, F⟩ := d.ex
  refine PE.imp (pe_make0 (E := fun _ _ _ => False) M F hr hg hmg hb .nil pass0 hdb) fun σ H Q ⟨bs, s, e, S, N, h⟩ => ?_
  exact fun x dx z1 z2 z3 => make_of d S .nil (Run.now S (Run.bnd h)) x dx z1 z2 z3
end
end G

set_option Elab.async false
set_option linter.all false
set_option maxRecDepth 100000
set_option maxHeartbeats 4000000
/-! G: more of dicts (soundness; the data level is in Gd): {}, dict(d), update, ==, len, loops over the keys -/
namespace G
open PySem L2 PySem.Spec PyProof.Rows
section
variable {X : Cx} {cl : Str → Addr} {W : WX} {e0 : Expr} {es : List Expr} {aa : CA} {p pos : Pos}
theorem s_newD : SE X cl W (.Dict [] [] pos) cNewD := PE.imp pe_dnewK fun σ H Q ⟨bs, s, e, S, N, h⟩ => by
  intro d hd
  exact h.of_ok (a := .box s.length) rfl (bs ++ [d]) _ (gr_box S hd) (S.push hd (m := .dk []) (o := .dK []) .nil) _ (.box (push_at S))
theorem bu_dict {K : PySem.W.Frag} : BuS K cl bDict (fun xs H Q => ∃ (a : Addr) (kvs : List (Key × V)), xs = [.ref a] ∧ Rd H a (.dK kvs) ∧ ∀ p, H p = none → Q (.ref p) (upd H p (.dK kvs))) := by
  intro W bs s H ds vs Q S r h
  match ds, r, h with
  | [], r, h => exact (show False from h).elim
  | _ :: _ :: _, r, h => exact (show False from h).elim
  | [x], r, h =>
    obtain ⟨v, rfl, r1⟩ := r.one
    cases e : dkAt s x with
    | some kvs =>
      obtain ⟨p, ws, rfl, e2, e3⟩ := dk_at S r1 e
      refine ⟨p, ws, rfl, e2, fun l hl => ?_⟩
      exact h.of_ok (a := .box s.length) (t := s ++ [.dk kvs]) (by unfold bDict; simp only [e]; rfl) (bs ++ [l]) _ (gr_box S hl) (S.push hl (m := .dk kvs) (o := .dK ws) e3) _ (.box (push_at S))
    | none => exact (Run.of_no h (by unfold bDict; simp only [e])).elim
theorem s_dict1 (hg : Gl X "dict") (hm : X.mg "dict" = none) (ha : SA X cl W (e0 :: es) aa) (he : starEach (e0 :: es) X.env = (false, eval e0 X.env) :: starEach es X.env := by rfl) (hpl : (backTo pos (starEach es X.env)).any (·.1) = false := by rfl) : SE X cl W (.Call (.Name "dict" p) (e0 :: es) [] pos) (cCall bDict aa) :=
  s_ty call_dictD bu_dict hg hm (by decide +kernel) ha (by decide) (by decide) he hpl
/-! d.update(e) -/
theorem d_upd {X : Cx} {pins : List (Addr × Obj)} {σ : L2.St} {H : Hp} {s : Shared} {a b : Addr} {kvs more : List (Key × V)} {A : Around} {E : Value → Shared → Prop} {Q : Value → Shared → Prop} (I : Inv X pins σ H s) (e1 : H a = some (.dK kvs)) (e2 : Rd H b (.dK more)) (ne : a ≠ b) (hl : kvs.length + more.length ≤ sizeLine)
    (h : ∀ s', Inv X pins σ (upd H a (.dK (mergeK kvs more))) s' → Q .none s') : wpAny (model X.prog X.w) A (call (.builtin "dict.update") [.ref a, .ref b]) Q E s := by
  obtain ⟨z1, hd1, vs1, r1, dd1⟩ := dk_of I.hok e1
  obtain ⟨z2, hd2, vs2, r2, dd2⟩ := dk_rd I.hok e2
  refine call_meetsIn PySem.F.slot_dict_update dd1.typeIs PySem.F.entry_dict_update (PySem.F.args_dict_update_2 _ _) (meets_dict_update (mixKind X.prog X.w) a b ne hd2) ⟨_, _, dd1, dd2, by rw [← r1.length, ← r2.length]; exact hl, fun h' d1 d2 hs => h _ ?_⟩
  have he : ∃ q, h'.get? a = some q := let ⟨q, _, _, hq, _⟩ := d1; ⟨q, hq⟩
  have hz : (mergeK kvs more).length ≤ sizeLine := Nat.le_trans (length_mergeK more kvs) hl
  exact d_write I (by rw [e1]; exact True.intro) hs he (dk_new hz hd1 (r2.merge r1) d1)
def tDUpd (td ty : TE) : TE := fun σ H Q => td σ H fun x H1 => ∃ a, x = .ref a ∧ IsD H1 a ∧ ty σ H1 fun y H2 => ∃ b kvs more, y = .ref b ∧ a ≠ b ∧ H2 a = some (.dK kvs) ∧ Rd H2 b (.dK more) ∧ kvs.length + more.length ≤ sizeLine ∧ Q .non (upd H2 a (.dK (mergeK kvs more)))
theorem pe_dupd {o e : Expr} {td ty : TE} {apos cpos : Pos} (ho : PE X o td) (he : PE X e ty) (m : M1 X o "update" apos e cpos) : PE X (.Call (.Attribute o "update" apos) [e] [] cpos) (tDUpd td ty) := by
  refine ⟨fun pins s σ H Q I h => ?_⟩
  refine wpAny_Call_method m.base m.few m.line PySem.F.plainAttrs_dict PySem.F.slot_dict_update PySem.F.type_dict_update (thn (ho.run pins s σ H _ I h) fun u s1 ⟨x, H1, I1, rx, a, ex, d, q1⟩ => ?_)
  subst ex
  obtain rfl : u = Value.ref a := rx
  obtain ⟨t1, t2, _⟩ := isD_at I1 d
  refine ⟨t1, t2, ?_⟩
  rw [m.trees]
  refine Calls.callWith_builtin rfl (Calls.evalArgs_plain (Calls.spliced_cons (thn (he.run pins s1 σ H1 _ I1 q1) fun iv s2 ⟨y, H2, I2, ry, b, kvs, more, ey, ne, ea, eb, hl, q2⟩ => Calls.spliced_nil ?_)))
  subst ey
  obtain rfl : iv = Value.ref b := ry
  exact d_upd I2 ea eb ne hl fun s3 I3 => ⟨.non, _, I3, rfl, q2⟩
theorem s_upd {o e : Expr} {co ce : CE} {apos cpos : Pos} (ho : SE X cl W o co) (he : SE X cl W e ce) (m : M1 X o "update" apos e cpos) : SE X cl W (.Call (.Attribute o "update" apos) [e] [] cpos) (cUpd co ce) :=
  PE.imp (pe_dupd ho he m) fun σ H Q ⟨bs, s, e, S, N, h⟩ => by
    refine ⟨bs, s, e, S, N, (Run.bnd h).imp fun x b1 t1 H1 g1 S1 h1 v r1 => ?_⟩
    cases q : dkAt t1 x with
    | none => exact (Run.of_no (Run.bnd h1) (by unfold chkD; simp only [q])).elim
    | some kvs =>
      have h1 := (Run.bnd h1).of_ok (a := ()) (t := t1) (by unfold chkD; simp only [q]) b1 H1 (Gr.refl _ _) S1
      obtain ⟨p, ws, ev, f2, f3⟩ := dk_at S1 r1 q
      refine ⟨p, ev, .inl ⟨ws, f2⟩, b1, t1, e, S1, N.mono g1, (Run.bnd h1).imp fun y b2 t2 H2 g2 S2 h2 w r2 => ?_⟩
      have r1 := r1.mono g2
      cases q1 : dkWr t2 x with
      | none => exact (Run.of_no h2 (by unfold dUpd; simp only [q1])).elim
      | some k1 =>
        cases q2 : dkAt t2 y with
        | none => exact (Run.of_no h2 (by unfold dUpd; simp only [q1, q2])).elim
        | some k2 =>
          obtain ⟨j, p1, w1, ex, q4, ev1, f1, f5, f6⟩ := dk_wr S2 r1 q1
          obtain ⟨p2, w2, ev2, f7, f8⟩ := dk_at S2 r2 q2
          subst ex
          rw [ev] at ev1
          cases ev1
          cases y with
          | box i =>
            by_cases c : j ≠ i ∧ k1.length + k2.length ≤ big
            · refine ⟨p2, w1, w2, ev2, fun z => ?_, f5, f7, ?_, ?_⟩
              · subst z
                cases r2 with
                | box hb =>
                  cases ev2
                  obtain ⟨l1, e1⟩ := List.getElem?_eq_some_iff.mp f1
                  obtain ⟨l2, e2⟩ := List.getElem?_eq_some_iff.mp hb
                  exact c.1 ((List.getElem_inj S2.nd).mp (e1.trans e2.symm))
              · rw [← kvr_len f6, ← kvr_len f8]; exact big_line c.2
              · exact h2.of_ok (a := .non) (t := t2.set j (.dk (mergeD k1 k2))) (by unfold dUpd; simp only [q1, q2]; rw [if_pos c]) b2 _ (gr_write f1 f5) (S2.write f1 f5 (m := .dk (mergeD k1 k2)) (o := .dK (mergeK w1 w2)) (kvr_merge f8 f6)) _ .non
            · exact (Run.of_no h2 (by unfold dUpd; simp only [q1, q2]; rw [if_neg c])).elim
          | _ => exact (Run.of_no h2 (by unfold dUpd; simp only [q1, q2])).elim
/-! == of dicts -/
theorem flat_eq {K : PySem.W.Frag} {bs : List Addr} {H : Hp} {d d' : D} {v v' : V} (hf : flatD d = true) (e : eqS d' d = some true) (r : Rp K cl bs H d v) (r' : Rp K cl bs H d' v') : v' = v ∧ flatB v = true := by
  cases d <;> cases d' <;> first | (cases hf; done) | (cases e; done) | skip
  · rw [r.non_inv, r'.non_inv]; exact ⟨rfl, rfl⟩
  · rw [r.bl_inv, r'.bl_inv]; simp [eqS] at e; subst e; exact ⟨rfl, rfl⟩
  · rw [r.int_inv, r'.int_inv]; simp [eqS] at e; subst e; exact ⟨rfl, rfl⟩
  · rw [r.str_inv, r'.str_inv]; simp [eqS] at e; subst e; exact ⟨rfl, rfl⟩
theorem kvr_mem {K : PySem.W.Frag} {bs : List Addr} {H : Hp} {ps : List (Key × D)} {kvs : List (Key × V)} (h : KvR K cl bs H ps kvs) : ∀ q ∈ kvs, ∃ p ∈ ps, p.1 = q.1 ∧ Rp K cl bs H p.2 q.2 := by
  unfold KvR at h
  induction h with
  | nil => intro q hq; cases hq
  | @cons p q ps qs h t ih =>
    intro z hz
    rcases List.mem_cons.mp hz with rfl | hz
    · exact ⟨p, List.mem_cons_self, h⟩
    · obtain ⟨p', m, r⟩ := ih z hz
      exact ⟨p', List.mem_cons_of_mem _ m, r⟩
theorem alike_ok {K : PySem.W.Frag} {bs : List Addr} {H : Hp} {ks ls : List (Key × D)} {kv lv : List (Key × V)} (h : alikeD ks ls = true) (r1 : KvR K cl bs H ks kv) (r2 : KvR K cl bs H ls lv) : kv.length = lv.length ∧ ∀ p ∈ kv, valV lv p.1 = some p.2 ∧ flatB p.2 = true := by
  unfold alikeD at h
  simp only [Bool.and_eq_true, decide_eq_true_eq, List.all_eq_true] at h
  obtain ⟨h1, h2⟩ := h
  refine ⟨by rw [← kvr_len r1, ← kvr_len r2, h1], fun q hq => ?_⟩
  obtain ⟨p, mp, e1, r⟩ := kvr_mem r1 q hq
  have h3 := h2 p mp
  rcases kvr_val r2 p.1 with ⟨z1, z2⟩ | ⟨d, v, z1, z2, z3⟩
  · rw [z1] at h3; cases h3
  · rw [z1] at h3
    simp only [Bool.and_eq_true, decide_eq_true_eq] at h3
    obtain ⟨e2, e3⟩ := flat_eq h3.1 h3.2 r z3
    rw [← e1, z2, e2]
    exact ⟨rfl, e3⟩
theorem og_eq2 (hu : X.A.units + 64 < cLine) : OpG X cl (compareOp .Eq) dEq2 := by
  obtain ⟨r, h1, h2⟩ := og_eq (X := X) (cl := cl) hu
  refine ⟨_, h1.or (op_eq_dictA (by omega)), ?_⟩
  intro W bs s H x y v w Q S r1 r2 h
  cases q1 : dkWr s x with
  | none => exact .inl (h2 W bs s H x y v w Q S r1 r2 (Run.same (by unfold dEq2; simp only [q1]) h))
  | some ks =>
    cases q2 : dkWr s y with
    | none => exact .inl (h2 W bs s H x y v w Q S r1 r2 (Run.same (by unfold dEq2; simp only [q1, q2]) h))
    | some ls =>
      obtain ⟨_, a, kv, _, _, rfl, _, f2, f3⟩ := dk_wr S r1 q1
      obtain ⟨_, b, lv, _, _, rfl, _, f5, f6⟩ := dk_wr S r2 q2
      by_cases c : alikeD ks ls = true
      · obtain ⟨e1, e2⟩ := alike_ok c f3 f6
        exact .inr ⟨a, b, kv, lv, rfl, rfl, f2, f5, e1, e2, h.of_ok (a := .bl true) (t := s) (by unfold dEq2; simp only [q1, q2]; rw [if_pos c]) bs H (Gr.refl _ _) S _ (.bl _)⟩
      · exact (Run.of_no h (by unfold dEq2; simp only [q1, q2]; rw [if_neg c])).elim
theorem og_ne2 (hu : X.A.units + 64 < cLine) : OpG X cl (compareOp .NotEq) dNe2 := by
  obtain ⟨r, h1, h2⟩ := og_ne (X := X) (cl := cl) hu
  refine ⟨_, h1.or (op_ne_dictA (by omega)), ?_⟩
  intro W bs s H x y v w Q S r1 r2 h
  cases q1 : dkWr s x with
  | none => exact .inl (h2 W bs s H x y v w Q S r1 r2 (Run.same (by unfold dNe2; simp only [q1]) h))
  | some ks =>
    cases q2 : dkWr s y with
    | none => exact .inl (h2 W bs s H x y v w Q S r1 r2 (Run.same (by unfold dNe2; simp only [q1, q2]) h))
    | some ls =>
      obtain ⟨_, a, kv, _, _, rfl, _, f2, f3⟩ := dk_wr S r1 q1
      obtain ⟨_, b, lv, _, _, rfl, _, f5, f6⟩ := dk_wr S r2 q2
      by_cases c : alikeD ks ls = true
      · obtain ⟨e1, e2⟩ := alike_ok c f3 f6
        exact .inr ⟨a, b, kv, lv, rfl, rfl, f2, f5, e1, e2, h.of_ok (a := .bl false) (t := s) (by unfold dNe2; simp only [q1, q2]; rw [if_pos c]) bs H (Gr.refl _ _) S _ (.bl _)⟩
      · exact (Run.of_no h (by unfold dNe2; simp only [q1, q2]; rw [if_neg c])).elim
/-! loops over the keys of a dict: it is locked meanwhile -/
theorem itOf_k {K : PySem.W.Frag} {j : Nat} {p : Addr} {od : Obj} {ws : List (Key × V)} {b0 : List Addr} {H0 : Hp} (hb : b0[j]? = some p) (hp : H0 p = some (.frz od (.dK ws))) : ItOf K cl (.dkeys j) b0 H0 (Itk p od ws) := by
  intro bs s H all g S e i
  have hp' := g.fz _ _ _ hp
  have e : (match s[j]? with | some (.fd kvs) => some (kvs.map fun kv => keyD kv.1) | _ => none) = some all := e
  cases q : s[j]? with
  | none => simp only [q] at e; cases e
  | some m =>
    cases m with
    | fd kvs =>
      simp only [q] at e
      cases e
      obtain ⟨p', o, f1, f2, f3⟩ := S.at_ _ _ q
      rw [g.at hb] at f1
      cases f1
      rw [hp'] at f2
      cases f2
      have f3 : KvR K cl bs H kvs ws := f3
      have hl := kvr_len f3
      rw [List.length_map]
      refine ⟨fun hi => ⟨⟨hp', by omega⟩, fun x H' y => ?_⟩, fun hi => ⟨hp', by omega⟩⟩
      obtain ⟨rfl, k, v, e1, rfl⟩ := y
      refine ⟨Gr.refl _ _, S, keyD k, ?_, ?_⟩
      · have h2 : ∀ {ps : List (Key × D)} {qs : List (Key × V)}, KvR K cl bs H' ps qs → ∀ i : Nat, qs[i]? = some (k, v) → (ps.map fun kv => keyD kv.1)[i]? = some (keyD k) := by
          intro ps qs r
          unfold KvR at r
          induction r with
          | nil => intro i h; simp at h
          | cons h t ih =>
            intro i h'
            cases i with
            | zero => simp at h'; subst h'; simp [h.1]
            | succ n => simpa using ih n (by simpa using h')
        exact h2 f3 i e1
      · cases k with
        | inl i => exact .int i
        | inr z => exact .str z
    | _ => simp only [q] at e; cases e
theorem i_keysF {x : Str} (i : Nat) {tg : Expr} (hN : X.N[i]? = some x := by rfl) (hv : Vis X.env.scope x := by first | exact Or.inl rfl | exact Or.inr (Or.inl rfl) | exact Or.inr (Or.inr rfl)) (hd : (x == ("__debug__" : Str)) = false := by decide) (hcd : (x == ("__classdict__" : Str)) = false := by decide) : SI X cl W tg (.Name x p) (iKeysF i) :=
  PI.imp (pi_keys (pe_var hN hv hd hcd)) fun σ H R ⟨bs, s, e, S, N, h⟩ => by
    cases q : sl e i with
    | none => exact (Run.of_no h (by unfold iKeysF; simp only [q])).elim
    | some d =>
      cases d with
      | box j =>
        cases q2 : s[j]? with
        | none => exact (Run.of_no h (by unfold iKeysF; simp only [q, q2])).elim
        | some m =>
          cases m with
          | fd kvs =>
            obtain ⟨p, o, f1, f2, f3⟩ := S.at_ _ _ q2
            cases o with
            | frz od u =>
              cases u with
              | dK ws =>
                obtain ⟨v, h1, r⟩ := N.at_ i _ (sl_get.mp q)
                cases r with
                | box hb =>
                  rw [f1] at hb
                  cases hb
                  exact ⟨_, h1, _, od, rfl, .inl ⟨ws, f2, h.of_ok (a := .dkeys j) (t := s) (by unfold iKeysF; simp only [q, q2]) bs H (Gr.refl _ _) S _ (itOf_k f1 f2)⟩⟩
              | _ => exact (show False from f3).elim
            | _ => exact (show False from f3).elim
          | _ => exact (Run.of_no h (by unfold iKeysF; simp only [q, q2])).elim
      | _ => exact (Run.of_no h (by unfold iKeysF; simp only [q])).elim
theorem StR.unlock {K : PySem.W.Frag} {bs : List Addr} {t : Sto} {H : Hp} {j : Nat} {p : Addr} {kvs : List (Key × D)} {ws : List (Key × V)} (S : StR K cl bs t H) (hp : bs[j]? = some p) (hq : t[j]? = some (.fd kvs)) (hH : ∃ od, H p = some (.frz od (.dK ws))) : StR K cl bs (t.set j (.dk kvs)) (upd H p (.dK ws)) := by
  have eh : ∀ a o, hid bs H a = some o → hid bs (upd H p (.dK ws)) a = some o := fun a o e => by
    obtain ⟨n, e⟩ := hid_some e
    refine hid_of n ?_
    rw [upd_ne (fun q => n (by rw [q]; exact List.mem_of_getElem? hp))]
    exact e
  obtain ⟨p', o', f1, f2, f3⟩ := S.at_ _ _ hq
  rw [hp] at f1
  cases f1
  obtain ⟨od, hH⟩ := hH
  rw [hH] at f2
  cases f2
  have f3 : KvR K cl bs H kvs ws := f3
  refine ⟨by simp [S.len], S.nd, fun i m' e => ?_⟩
  by_cases hi : i = j
  · subst hi
    have hl : i < t.length := by rw [← S.len]; exact (List.getElem?_eq_some_iff.mp hp).1
    rw [List.getElem?_set_self hl] at e
    cases e
    exact ⟨p, _, hp, upd_same, MoR.up (m := .dk kvs) (o := .dK ws) eh (fun _ _ z => z) f3⟩
  · rw [List.getElem?_set_ne (Ne.symm hi)] at e
    obtain ⟨q, u, hq, hu, r'⟩ := S.at_ i m' e
    have ne : q ≠ p := fun z => by
      subst z
      obtain ⟨h1, e1⟩ := List.getElem?_eq_some_iff.mp hq
      obtain ⟨h2, e2⟩ := List.getElem?_eq_some_iff.mp hp
      exact hi ((List.getElem_inj S.nd).mp (e1.trans e2.symm))
    exact ⟨q, u, hq, by rw [upd_ne ne]; exact hu, r'.up eh fun _ _ z => z⟩
/-- from ahead of the lock to behind it -/
theorem gr_unlock {bs b1 : List Addr} {H H1 : Hp} {p : Addr} {od : Obj} {ws : List (Key × V)} (hp : p ∈ bs) (h : H p = some (.dK ws)) (g : Gr bs (upd H p (.frz od (.dK ws))) b1 H1) : Gr bs H b1 (upd H1 p (.dK ws)) := ⟨g.pre, (fun a o e n => by
  have ne : a ≠ p := fun q => n (by rw [q]; exact hp)
  obtain ⟨h1, h2⟩ := g.keep a o (by rw [upd_ne ne]; exact e) n
  exact ⟨by rw [upd_ne ne]; exact h1, h2⟩), fun a ob x e => by
  have ne : a ≠ p := fun q => by subst q; rw [h] at e; cases e
  rw [upd_ne ne]
  exact g.fz a ob x (by rw [upd_ne ne]; exact e)⟩
theorem EnR.fz {K : PySem.W.Frag} {bs : List Addr} {H : Hp} {p : Addr} {o : HO} {e : En} {σ : L2.St} (N : EnR K cl bs H e σ) (hp : p ∈ bs) : EnR K cl bs (upd H p o) e σ := ⟨N.len, fun i d q => by
  obtain ⟨v, h1, r⟩ := N.at_ i d q
  refine ⟨v, h1, r.up (fun a o e => ?_) fun _ _ z => z⟩
  obtain ⟨n, e⟩ := hid_some e
  refine hid_of n ?_
  rw [upd_ne (fun q => n (by rw [q]; exact hp))]
  exact e⟩
theorem up_eh {bs : List Addr} {H : Hp} {p : Addr} {o : HO} (hp : p ∈ bs) : ∀ a u, hid bs H a = some u → hid bs (upd H p o) a = some u := fun a u e => by
  obtain ⟨n, e⟩ := hid_some e
  refine hid_of n ?_
  rw [upd_ne (fun q => n (by rw [q]; exact hp))]
  exact e
/-- what stands at a lock's begin -/
theorem lock_at {K : PySem.W.Frag} {bs : List Addr} {s : Sto} {H : Hp} {j : Nat} {kvs : List (Key × D)} (S : StR K cl bs s H) (q : s[j]? = some (.dk kvs)) : ∃ p ws, bs[j]? = some p ∧ H p = some (.dK ws) ∧ ∀ od, Gr bs H bs (upd H p (.frz od (.dK ws))) ∧ StR K cl bs (s.set j (.fd kvs)) (upd H p (.frz od (.dK ws))) := by
  obtain ⟨p, o, f1, f2, f3⟩ := S.at_ _ _ q
  cases o with
  | dK ws => exact ⟨p, ws, f1, f2, fun od => ⟨gr_write f1 f2, S.write f1 f2 (m := .fd kvs) (o := .frz od (.dK ws)) f3⟩⟩
  | _ => exact (show False from f3).elim
theorem ss_lock {st : Stmt} {i : Nat} {c : CS} (h : SS X cl W st c) : SS X cl W st (sLock i c) := PS.imp (ps_lock h) fun E σ H ⟨bs, s, e, S, N, h⟩ => by
  cases q : sl e i with
  | none => exact (Run.of_no h (by unfold sLock; simp only [q])).elim
  | some d =>
    cases d with
    | box j =>
      cases q2 : s[j]? with
      | none => exact (Run.of_no h (by unfold sLock; simp only [q, q2])).elim
      | some m =>
        cases m with
        | dk kvs =>
          obtain ⟨p, ws, f1, f2, lk⟩ := lock_at S q2
          refine ⟨p, .dK ws, f2, trivial, fun od => ?_⟩
          obtain ⟨g1, S1⟩ := lk od
          refine ⟨bs, _, e, S1, N.fz (List.mem_of_getElem? f1), ?_⟩
          unfold Run at h ⊢
          unfold sLock at h
          simp only [q, q2] at h
          cases q3 : c e (s.set j (.fd kvs)) with
          | no => rw [q3] at h; exact h
          | ex cc fs t => rw [q3] at h; exact h.elim
          | ok fl t =>
            rw [q3] at h
            by_cases cc : t[j]? = some (.fd kvs) ∧ (∀ c fs e', fl ≠ .ex c fs e')
            · simp only [if_pos cc] at h
              intro b1 H1 g2 S2
              have hf : H1 p = some (.frz od (.dK ws)) := g2.fz _ _ _ upd_same
              have hb := g2.at f1
              have S3 := S2.unlock hb cc.1 ⟨od, hf⟩
              have k := h b1 _ (gr_unlock (List.mem_of_getElem? f1) f2 g2) S3
              have up := up_eh (H := H1) (o := .dK ws) (List.mem_of_getElem? hb)
              cases fl with
              | nx e' => exact fun σ' N' => ⟨hf, k σ' (N'.fz (List.mem_of_getElem? hb))⟩
              | rt d => exact fun v r => ⟨hf, k v (r.up up fun _ _ z => z)⟩
              | bk e' => exact fun σ' N' => ⟨hf, k σ' (N'.fz (List.mem_of_getElem? hb))⟩
              | ct e' => exact fun σ' N' => ⟨hf, k σ' (N'.fz (List.mem_of_getElem? hb))⟩
              | ex c fs e' => exact absurd rfl (cc.2 c fs e')
            · simp only [if_neg cc] at h
        | _ => exact (Run.of_no h (by unfold sLock; simp only [q, q2])).elim
    | _ => exact (Run.of_no h (by unfold sLock; simp only [q])).elim
theorem l_lock {ex : Expr} {i : Nat} {c : CA} (h : SL X cl W ex c) : SL X cl W ex (aLock i c) := PE.imp (pe_lock h) fun σ H Q ⟨bs, s, e, S, N, h⟩ => by
  cases q : sl e i with
  | none => exact (Run.of_no h (by unfold aLock; simp only [q])).elim
  | some d =>
    cases d with
    | box j =>
      cases q2 : s[j]? with
      | none => exact (Run.of_no h (by unfold aLock; simp only [q, q2])).elim
      | some m =>
        cases m with
        | dk kvs =>
          obtain ⟨p, ws, f1, f2, lk⟩ := lock_at S q2
          refine ⟨p, .dK ws, f2, trivial, fun od => ?_⟩
          obtain ⟨g1, S1⟩ := lk od
          refine ⟨bs, _, e, S1, N.fz (List.mem_of_getElem? f1), ?_⟩
          unfold Run at h ⊢
          unfold aLock at h
          simp only [q, q2] at h
          cases q3 : c e (s.set j (.fd kvs)) with
          | no => rw [q3] at h; exact h
          | ex cc fs t => rw [q3] at h; exact h.elim
          | ok ds t =>
            rw [q3] at h
            by_cases cc : t[j]? = some (.fd kvs)
            · simp only [if_pos cc] at h
              intro b1 H1 g2 S2 np vs hn r
              have hf : H1 p = some (.frz od (.dK ws)) := g2.fz _ _ _ upd_same
              have hb := g2.at f1
              have ne : p ≠ np := ne_of_none hf hn
              have S3 := S2.unlock hb cc ⟨od, hf⟩
              have k := h b1 _ (gr_unlock (List.mem_of_getElem? f1) f2 g2) S3 np vs (by rw [upd_ne ne.symm]; exact hn) (r.up (up_eh (List.mem_of_getElem? hb)) fun _ _ z => z)
              refine ⟨by rw [upd_ne ne]; exact hf, ?_⟩
              have e1 : upd (upd H1 np (.lst vs)) p (.dK ws) = upd (upd H1 p (.dK ws)) np (.lst vs) := by
                funext a
                by_cases z1 : a = p
                · subst z1; rw [upd_same, upd_ne ne, upd_same]
                · by_cases z2 : a = np
                  · subst z2; rw [upd_ne z1, upd_same, upd_same]
                  · rw [upd_ne z1, upd_ne z2, upd_ne z2, upd_ne z1]
              rw [e1]
              exact k
            · simp only [if_neg cc] at h
        | _ => exact (Run.of_no h (by unfold aLock; simp only [q, q2])).elim
    | _ => exact (Run.of_no h (by unfold aLock; simp only [q])).elim
end
end G

set_option Elab.async false
set_option linter.all false
set_option maxRecDepth 100000
set_option maxHeartbeats 4000000
/-! G, the wp of each combinator; what comes behind is locked: the simplifier does not enter it (an argument's type depends on it). -/
namespace G
open PySem L2

inductive Lk1 {α : Sort _} (a : α) : Type | u
inductive Lk2 {α β : Sort _} (a : α) (b : β) : Type | u
inductive Lk5 {α β γ δ ε : Sort _} (a : α) (b : β) (c : γ) (d : δ) (e : ε) : Type | u
abbrev XP := Str → List (Str × D) → Sto → Prop
abbrev NX : XP := fun _ _ _ => False
def wp {α : Type} (m : Cm α) (s : Sto) (Q : α → Sto → Prop) (E : XP) (_ : Lk2 Q E := .u) : Prop := match m s with
  | .ok a t => Q a t
  | .ex c fs t => E c fs t
  | .no => False
/-- a branch -/
def sel (b : Bool) (A B : Prop) (_ : Lk2 A B := .u) : Prop := if b = true then A else B
/-- a guard -/
def gd (p A : Prop) (_ : Lk1 A := .u) : Prop := p ∧ A
def onBl (d : D) (k : Bool → Prop) (_ : Lk1 k := .u) : Prop := match d with
  | .bl b => k b
  | _ => False
def onInt (d : D) (k : Int → Prop) (_ : Lk1 k := .u) : Prop := match d with
  | .int b => k b
  | _ => False
def onTup (d : D) (k : List D → Prop) (_ : Lk1 k := .u) : Prop := match d with
  | .tup b => k b
  | _ => False
/-- a number that was reckoned: the simplifier enters it ahead of what comes behind -/
def vI (i : Int) (k : Int → Prop) (_ : Lk1 k := .u) : Prop := k i
@[simp] theorem vI_k {i : Int} {k : Int → Prop} {u : Lk1 k} : vI i k u = k i := propext Iff.rfl
/-- a slot is written -/
def stK (e : En) (i : Nat) (d : Option D) (k : En → Prop) (_ : Lk1 k := .u) : Prop := k (st e i d)
@[simp ↓] theorem stK_0 {x d : Option D} {r : En} {k : En → Prop} {u : Lk1 k} : stK (x :: r) 0 d k u = k (d :: r) := propext Iff.rfl
@[simp ↓] theorem stK_s {x d : Option D} {r : En} {n : Nat} {k : En → Prop} {u : Lk1 k} : stK (x :: r) (n + 1) d k u = stK r n d fun r' => k (x :: r') := propext Iff.rfl
/-- targets of an unpacking -/
def stw (e : En) (is : List Nat) (ds : List D) (k : En → Prop) (_ : Lk1 k := .u) : Prop := match stAll e is ds with
  | some e' => k e'
  | none => False
def withT (t : Tg) (x : D) (e : En) (k : En → Prop) (_ : Lk1 k := .u) : Prop := match bindT t x e with
  | some e' => k e'
  | none => False
/-- one of a row -/
def atK (xs : List D) (i : Int) (k : D → Prop) (_ : Lk1 k := .u) : Prop := match atI xs i with
  | some v => k v
  | none => False
/-- texts that are written -/
theorem ofString_inj {a b : String} (h : Str.ofString a = Str.ofString b) : a = b := by
  rw [Str.ofString_eq_toList, Str.ofString_eq_toList] at h
  have h2 : a.toList.map Char.toNat = b.toList.map Char.toNat := by simpa using h
  have h3 : a.toList = b.toList := by
    refine List.map_inj_right ?_ |>.mp h2
    intro x y e
    exact Char.toNat_inj.mp e
  exact String.toList_inj.mp h3
@[simp] theorem str_eq {a b : String} : (Str.ofString a = Str.ofString b) = (a = b) := propext ⟨ofString_inj, fun h => by rw [h]⟩
/-- a power of two -/
def p2 (z : Int) : Int := 2 ^ z.toNat
@[simp] theorem p2_pos {z : Int} : 0 < p2 z := Int.pow_pos (by decide)
@[simp] theorem p2_lit {n : Nat} : p2 (no_index (OfNat.ofNat n)) = 2 ^ n := rfl
@[simp] theorem p2_0 : p2 0 = 1 := rfl
@[simp] theorem p2_1 : p2 1 = 2 := rfl
/-- slots that are put in order ahead of what comes behind -/
def onE (e : En) (k : En → Prop) (_ : Lk1 k := .u) : Prop := k e
@[simp] theorem onE_k {e : En} {k : En → Prop} {u : Lk1 k} : onE e k u = k e := propext Iff.rfl
theorem onE_e {e : En} {k : En → Prop} {u : Lk1 k} (h : onE e k u) : k e := h
/-- what an invariant asks: left as it is -/
def dn (p : Prop) (_ : Lk1 p := .u) : Prop := p
theorem dn_i {p : Prop} {u : Lk1 p} (h : p) : dn p u := h
theorem dn_e {p : Prop} {u : Lk1 p} (h : dn p u) : p := h
section
variable {A B : Prop} {u2 : Lk2 A B} {u1 : Lk1 A}
@[simp] theorem sel_true : sel true A B u2 = A := by unfold sel; simp
@[simp] theorem sel_false : sel false A B u2 = B := by unfold sel; simp
@[simp] theorem sel_not {b : Bool} : sel (!b) A B u2 = sel b B A := by cases b <;> simp [sel]
@[simp] theorem sel_or {b c : Bool} : sel (b || c) A B u2 = sel b A (sel c A B) := by cases b <;> simp [sel]
@[simp] theorem sel_and {b c : Bool} : sel (b && c) A B u2 = sel b (sel c A B) B := by cases b <;> simp [sel]
theorem sel_t {p : Prop} {ip : Decidable p} (h : p) (k : A) : sel (decide p) A B u2 := by rw [decide_eq_true h, sel_true]; exact k
theorem sel_f {p : Prop} {ip : Decidable p} (h : ¬ p) (k : B) : sel (decide p) A B u2 := by rw [decide_eq_false h, sel_false]; exact k
theorem sel_i {p : Prop} {ip : Decidable p} (h : p → A) (k : ¬ p → B) : sel (decide p) A B u2 := by
  by_cases c : p
  · exact sel_t c (h c)
  · exact sel_f c (k c)
theorem sel_b {b : Bool} (h : b = true → A) (k : b = false → B) : sel b A B u2 := by
  cases b
  · rw [sel_false]; exact k rfl
  · rw [sel_true]; exact h rfl
@[simp] theorem gd_true : gd True A u1 = A := by unfold gd; simp
theorem gd_i {p : Prop} (h : p) (k : A) : gd p A u1 := ⟨h, k⟩
@[simp ↓] theorem onBl_bl {b : Bool} {k : Bool → Prop} {u : Lk1 k} : onBl (.bl b) k u = k b := propext Iff.rfl
@[simp ↓] theorem onInt_int {b : Int} {k : Int → Prop} {u : Lk1 k} : onInt (.int b) k u = k b := propext Iff.rfl
@[simp ↓] theorem onTup_tup {b : List D} {k : List D → Prop} {u : Lk1 k} : onTup (.tup b) k u = k b := propext Iff.rfl
@[simp ↓] theorem stw_nil {e : En} {k : En → Prop} {u : Lk1 k} : stw e [] [] k u = k e := propext Iff.rfl
@[simp ↓] theorem stw_cons {e : En} {i : Nat} {is : List Nat} {d : D} {ds : List D} {k : En → Prop} {u : Lk1 k} : stw e (i :: is) (d :: ds) k u = stK e i (some d) fun e' => stw e' is ds k := propext Iff.rfl
@[simp ↓] theorem withT_v {i : Nat} {x : D} {e : En} {k : En → Prop} {u : Lk1 k} : withT (.v i) x e k u = stK e i (some x) k := propext Iff.rfl
@[simp ↓] theorem withT_t {is : List Nat} {ds : List D} {e : En} {k : En → Prop} {u : Lk1 k} : withT (.t is) (.tup ds) e k u = stw e is ds k := propext Iff.rfl
theorem atK_i {xs : List D} {i : Int} {v : D} {k : D → Prop} {u : Lk1 k} (h : atI xs i = some v) (q : k v) : atK xs i k u := by unfold atK; rw [h]; exact q
end
theorem atI_lt {α : Type} {xs : List α} {i : Int} (h0 : 0 ≤ i) (h1 : i < xs.length) : ∃ v, atI xs i = some v ∧ v ∈ xs := by
  obtain ⟨n, rfl⟩ := Int.eq_ofNat_of_zero_le h0
  have hn : n < xs.length := by omega
  exact ⟨xs[n], atI_nat (by simp [hn]), List.getElem_mem hn⟩
theorem atK_all {xs : List D} {i : Int} {k : D → Prop} {u : Lk1 k} (h0 : 0 ≤ i) (h1 : i < xs.length) (q : ∀ x ∈ xs, k x) : atK xs i k u := by
  obtain ⟨v, e, m⟩ := atI_lt h0 h1
  exact atK_i e (q v m)
theorem atK_int (P : Int → Prop) {xs : List D} {i : Int} {k : D → Prop} {u : Lk1 k} (h0 : 0 ≤ i) (h1 : i < xs.length) (h : ∀ x ∈ xs, ∃ z, x = .int z ∧ P z) (q : ∀ z, P z → k (.int z)) : atK xs i k u :=
  atK_all h0 h1 fun x hx => by
    obtain ⟨z, rfl, hz⟩ := h x hx
    exact q z hz
theorem atK_2 {x y : D} {i : Int} {k : D → Prop} {u : Lk1 k} (h0 : 0 ≤ i) (h1 : i < 2) (q0 : i = 0 → k x) (q1 : i = 1 → k y) : atK [x, y] i k u := by
  by_cases c : i = 0
  · subst c; exact q0 rfl
  · have c1 : i = 1 := by omega
    subst c1; exact q1 rfl
theorem atK_if {x y : D} {p : Prop} {ip : Decidable p} {k : D → Prop} {u : Lk1 k} (h : p → k y) (h' : ¬ p → k x) : atK [x, y] (if p then 1 else 0) k u := by
  by_cases c : p
  · rw [if_pos c]; exact h c
  · rw [if_neg c]; exact h' c
theorem atK_min {a b : Int} {k : D → Prop} {u : Lk1 k} (h : k (.int (min a b))) : atK [.int a, .int b] (if b < a then 1 else 0) k u :=
  atK_if (fun c => by rw [Int.min_eq_right (by omega)] at h; exact h) (fun c => by rw [Int.min_eq_left (by omega)] at h; exact h)
section
variable {e : En} {s : Sto} {Q : D → Sto → Prop} {E : XP} {u : Lk2 Q E}
@[simp ↓] theorem wp_bnd {α β : Type} {m : Cm α} {f : α → Cm β} {s : Sto} {Q : β → Sto → Prop} {E : XP} {u : Lk2 Q E} : wp (bnd m f) s Q E u = wp m s (fun a t => wp (f a) t Q E) E := by
  unfold wp bnd
  cases m s <;> rfl
@[simp ↓] theorem wp_ret {α : Type} {a : α} {s : Sto} {Q : α → Sto → Prop} {E : XP} {u : Lk2 Q E} : wp (ret a) s Q E u = Q a s := propext Iff.rfl
theorem wp_mono {α : Type} {m : Cm α} {s : Sto} {Q Q' : α → Sto → Prop} {E E' : XP} (h : wp m s Q E) (hq : ∀ a t, Q a t → Q' a t) (he : ∀ c fs t, E c fs t → E' c fs t) : wp m s Q' E' := by
  unfold wp at *
  cases e : m s with
  | ok a t => rw [e] at h; exact hq _ _ h
  | ex c fs t => rw [e] at h; exact he _ _ _ h
  | no => rw [e] at h; exact h
@[simp ↓] theorem wp_pur {α : Type} {m : Cm α} {s : Sto} {Q : α → Sto → Prop} {E : XP} {u : Lk2 Q E} : wp (pur m) s Q E u = wp m s Q NX := by
  unfold wp pur
  cases m s <;> rfl
theorem wp_sel {α : Type} {b : Bool} {x y : Cm α} {s : Sto} {Q : α → Sto → Prop} {E : XP} {u : Lk2 Q E} : wp (if b = true then x else y) s Q E u = sel b (wp x s Q E) (wp y s Q E) := by
  cases b
  · rw [sel_false]; rfl
  · rw [sel_true]; rfl
theorem wp_guard {α : Type} {c : Prop} [Decidable c] {m : Cm α} {s : Sto} {P : α → Sto → Prop} {E : XP} {u : Lk2 P E} : wp (if c then m else noC) s P E u = gd c (wp m s P E) := by
  unfold gd
  by_cases h : c
  · rw [if_pos h]; simp [h]
  · rw [if_neg h]; simp [h]; exact fun z => z
/-! ### statements by their ways out -/
def ws (c : CS) (e : En) (s : Sto) (N : En → Sto → Prop) (Rt : D → Sto → Prop) (B C : En → Sto → Prop) (E : XP) (_ : Lk5 N Rt B C E := .u) : Prop := wp (c e) s (fun fl t => match fl with
  | .nx e' => N e' t
  | .rt d => Rt d t
  | .bk e' => B e' t
  | .ct e' => C e' t
  | .ex c fs _ => E c fs t) NX
abbrev NE : En → Sto → Prop := fun _ _ => False
variable {N B C : En → Sto → Prop} {Rt : D → Sto → Prop} {v : Lk5 N Rt B C E}
theorem wp_lft {α : Type} {m : Cm α} {k : α → Cm Fl} {P : Fl → Sto → Prop} {u : Lk2 P NX} : wp (lft e m k) s P NX u = wp m s (fun a t => wp (k a) t P NX) (fun c fs t => P (.ex c fs e) t) := by
  unfold wp lft
  cases m s <;> rfl
@[simp ↓] theorem ws_nil : ws sNil e s N Rt B C E v = N e s := propext Iff.rfl
theorem wp_congr {α : Type} {m : Cm α} {s : Sto} {Q Q' : α → Sto → Prop} {E : XP} (h : ∀ a t, Q a t = Q' a t) : wp m s Q E = wp m s Q' E := by
  have : Q = Q' := by funext a t; exact h a t
  subst this
  rfl
@[simp ↓] theorem ws_seq {a b : CS} : ws (sSeq a b) e s N Rt B C E v = ws a e s (fun e' t => ws b e' t N Rt B C E) Rt B C E := by
  unfold ws sSeq
  rw [wp_bnd]
  exact wp_congr fun fl t => by cases fl <;> rfl
@[simp ↓] theorem ws_set {i : Nat} {c : CE} : ws (sSet i c) e s N Rt B C E v = wp (c e) s (fun d t => stK e i (some d) fun e' => N e' t) E := by
  unfold ws sSet
  rw [wp_lft]
  rfl
@[simp ↓] theorem ws_drop {c : CE} : ws (sDrop c) e s N Rt B C E v = wp (c e) s (fun d t => N e t) E := by
  unfold ws sDrop
  rw [wp_lft]
  rfl
@[simp ↓] theorem ws_ret {c : CE} : ws (sRet c) e s N Rt B C E v = wp (c e) s (fun d t => Rt d t) E := by
  unfold ws sRet
  rw [wp_lft]
  rfl
@[simp ↓] theorem ws_retN : ws sRetN e s N Rt B C E v = Rt .non s := propext Iff.rfl
@[simp ↓] theorem ws_break : ws sBreak e s N Rt B C E v = B e s := propext Iff.rfl
@[simp ↓] theorem ws_cont : ws sCont e s N Rt B C E v = C e s := propext Iff.rfl
@[simp ↓] theorem ws_if {t : CT} {a b : CS} : ws (sIf t a b) e s N Rt B C E v = wp (t e) s (fun c u => sel c (ws a e u N Rt B C E) (ws b e u N Rt B C E)) E := by
  unfold ws sIf
  rw [wp_lft]
  exact wp_congr fun c u => by
    cases c
    · rw [sel_false]; rfl
    · rw [sel_true]; rfl
theorem ws_aug {i : Nat} {f : D → D → Cm D} {c : CE} {x : D} (h : sl e i = some x) : ws (sAug i f c) e s N Rt B C E v = wp (c e) s (fun y t => wp (f x y) t (fun z u => N (st e i (some z)) u) E) E := by
  unfold ws sAug
  rw [h]
  show wp (lft e (c e) _) s _ _ = _
  rw [wp_lft]
  refine wp_congr fun y t => ?_
  rw [wp_lft]
  rfl
/-- a slot's value -/
def slK (e : En) (i : Nat) (k : D → Prop) (_ : Lk1 k := .u) : Prop := match sl e i with
  | some d => k d
  | none => False
@[simp ↓] theorem slK_0 {x : D} {r : En} {k : D → Prop} {u : Lk1 k} : slK (some x :: r) 0 k u = k x := propext Iff.rfl
@[simp ↓] theorem slK_s {x : Option D} {r : En} {n : Nat} {k : D → Prop} {u : Lk1 k} : slK (x :: r) (n + 1) k u = slK r n k := propext Iff.rfl
@[simp ↓] theorem ws_augW {i : Nat} {f : D → D → Cm D} {c : CE} : ws (sAug i f c) e s N Rt B C E v = slK e i (fun x => wp (c e) s (fun y t => wp (f x y) t (fun z u => stK e i (some z) fun e' => N e' u) E) E) := by
  unfold slK
  cases h : sl e i with
  | some x => exact ws_aug h
  | none => unfold ws sAug; rw [h]; rfl
@[simp ↓] theorem ws_put {f : D → D → D → Cm Unit} {o i w : CE} : ws (sPut f o i w) e s N Rt B C E v = wp (w e) s (fun z t => wp (o e) t (fun x u => wp (i e) u (fun y w => wp (f x y z) w (fun _ r => N e r) E) E) E) E := by
  unfold ws sPut
  rw [wp_lft]
  refine wp_congr fun y t => ?_
  rw [wp_lft]
  refine wp_congr fun y t => ?_
  rw [wp_lft]
  refine wp_congr fun y t => ?_
  rw [wp_lft]
  rfl
@[simp ↓] theorem ws_par {is : List Nat} {c : CA} : ws (sPar is c) e s N Rt B C E v = wp (c e) s (fun ds t => stw e is ds fun e' => N e' t) E := by
  unfold ws sPar
  rw [wp_lft]
  exact wp_congr fun ds t => by
    unfold stw
    cases stAll e is ds <;> rfl
@[simp ↓] theorem ws_unp {is : List Nat} {c : CE} : ws (sUnp is c) e s N Rt B C E v = wp (c e) s (fun d t => onTup d fun ds => stw e is ds fun e' => N e' t) E := by
  unfold ws sUnp
  rw [wp_lft]
  exact wp_congr fun d t => by
    unfold onTup
    cases d <;> first | rfl | skip
    rename_i ds
    simp only [stw]
    cases stAll e is ds <;> rfl
/-- two ways that join -/
theorem ws_mono {c : CS} {N' : En → Sto → Prop} (h : ws c e s N' Rt B C E) (hn : ∀ e' t, N' e' t → N e' t) : ws c e s N Rt B C E v := by
  unfold ws at h ⊢
  refine wp_mono h (fun fl t q => ?_) fun _ _ _ z => z
  cases fl <;> first | exact hn _ _ q | exact q
theorem sel_join {p : Prop} {ip : Decidable p} {a b : CS} {v1 v2 : Lk5 N Rt B C E} {u2 : Lk2 (ws a e s N Rt B C E v1) (ws b e s N Rt B C E v2)} (J : En → Sto → Prop) (k1 : p → ws a e s (fun e' t => dn (J e' t)) Rt B C E) (k2 : ¬ p → ws b e s (fun e' t => dn (J e' t)) Rt B C E) (h : ∀ e' t, J e' t → N e' t) :
    sel (decide p) (ws a e s N Rt B C E v1) (ws b e s N Rt B C E v2) u2 := sel_i (fun c => ws_mono (k1 c) h) (fun c => ws_mono (k2 c) h)
/-! ### expressions -/
@[simp ↓] theorem wp_cK {d : D} : wp (cK d e) s Q E u = Q d s := propext Iff.rfl
@[simp ↓] theorem wp_cW {i : Nat} : wp (cV i e) s Q E u = slK e i fun d => Q d s := by
  unfold cV slK
  cases sl e i <;> rfl
@[simp ↓] theorem wp_cBin {f : D → D → Cm D} {a b : CE} : wp (cBin f a b e) s Q E u = wp (a e) s (fun x t => wp (b e) t (fun y u => wp (f x y) u Q E) E) E := by
  unfold cBin
  rw [wp_bnd]
  exact wp_congr fun x t => wp_bnd
@[simp ↓] theorem wp_cUn {f : D → Cm D} {a : CE} : wp (cUn f a e) s Q E u = wp (a e) s (fun x t => wp (f x) t Q E) E := by
  unfold cUn
  simp only [wp_bnd]
@[simp ↓] theorem wp_cCall {g : List D → Cm D} {a : CA} : wp (cCall g a e) s Q E u = wp (a e) s (fun xs t => wp (g xs) t Q E) E := by
  unfold cCall
  simp only [wp_bnd]
@[simp ↓] theorem wp_aNil {P : List D → Sto → Prop} {u : Lk2 P E} : wp (aNil e) s P E u = P [] s := propext Iff.rfl
@[simp ↓] theorem wp_aCons {a : CE} {r : CA} {P : List D → Sto → Prop} {u : Lk2 P E} : wp (aCons a r e) s P E u = wp (a e) s (fun x t => wp (r e) t (fun xs u => P (x :: xs) u) E) E := by
  unfold aCons
  rw [wp_bnd]
  exact wp_congr fun x t => by rw [wp_bnd]; rfl
@[simp ↓] theorem wp_cTup {a : CA} : wp (cTup a e) s Q E u = wp (a e) s (fun xs t => gd (xs.length ≤ big) (Q (.tup xs) t)) E := by
  unfold cTup
  rw [wp_bnd]
  exact wp_congr fun x t => by rw [wp_guard]; rfl
@[simp ↓] theorem wp_cLst {a : CA} : wp (cLst a e) s Q E u = wp (a e) s (fun xs t => gd (xs.length ≤ big) (wp (alloc (.lst xs)) t Q E)) E := by
  unfold cLst
  rw [wp_bnd]
  exact wp_congr fun x t => wp_guard
@[simp ↓] theorem wp_tE {a : CE} {P : Bool → Sto → Prop} {u : Lk2 P E} : wp (tE a e) s P E u = wp (a e) s (fun x t => onBl x fun b => P b t) E := by
  unfold tE
  rw [wp_bnd]
  exact wp_congr fun x t => by cases x <;> rfl
@[simp ↓] theorem wp_tNot {a : CT} {P : Bool → Sto → Prop} {u : Lk2 P E} : wp (tNot' a e) s P E u = wp (a e) s (fun b t => P (!b) t) E := by
  unfold tNot'
  rw [wp_bnd]
  rfl
@[simp ↓] theorem wp_tAnd {a b : CT} {P : Bool → Sto → Prop} {u : Lk2 P E} : wp (tAnd' a b e) s P E u = wp (a e) s (fun c t => sel c (wp (b e) t P E) (P false t)) E := by
  unfold tAnd'
  rw [wp_bnd]
  exact wp_congr fun c t => by rw [wp_sel]; rfl
@[simp ↓] theorem wp_tOr {a b : CT} {P : Bool → Sto → Prop} {u : Lk2 P E} : wp (tOr' a b e) s P E u = wp (a e) s (fun c t => sel c (P true t) (wp (b e) t P E)) E := by
  unfold tOr'
  rw [wp_bnd]
  exact wp_congr fun c t => by rw [wp_sel]; rfl
@[simp ↓] theorem wp_cAnd {a b : CE} : wp (cAnd a b e) s Q E u = wp (a e) s (fun x t => onBl x fun c => sel c (wp (b e) t Q E) (Q (.bl false) t)) E := by
  unfold cAnd
  rw [wp_bnd]
  exact wp_congr fun c t => by
    cases c <;> first | rfl | skip
    rename_i c
    show wp (if c = true then b e else ret (.bl false)) t Q E = _
    rw [wp_sel]; rfl
@[simp ↓] theorem wp_cOr {a b : CE} : wp (cOr a b e) s Q E u = wp (a e) s (fun x t => onBl x fun c => sel c (Q (.bl true) t) (wp (b e) t Q E)) E := by
  unfold cOr
  rw [wp_bnd]
  exact wp_congr fun c t => by
    cases c <;> first | rfl | skip
    rename_i c
    show wp (if c = true then ret (.bl true) else b e) t Q E = _
    rw [wp_sel]; rfl
@[simp ↓] theorem wp_cNot {a : CE} : wp (cNot a e) s Q E u = wp (a e) s (fun x t => onBl x fun c => Q (.bl (!c)) t) E := by
  unfold cNot
  rw [wp_bnd]
  exact wp_congr fun c t => by cases c <;> rfl
@[simp ↓] theorem wp_cIf {t : CT} {a b : CE} : wp (cIf t a b e) s Q E u = wp (t e) s (fun c u => sel c (wp (a e) u Q E) (wp (b e) u Q E)) E := by
  unfold cIf
  rw [wp_bnd]
  exact wp_congr fun c t => wp_sel
@[simp ↓] theorem wp_cChain {f g : D → D → Cm D} {a b c : CE} : wp (cChain f g a b c e) s Q E u = wp (a e) s (fun x t => wp (b e) t (fun y u => wp (f x y) u (fun z v => onBl z fun k => sel k (wp (c e) v (fun w r => wp (g y w) r Q E) E) (Q (.bl false) v)) E) E) E := by
  unfold cChain
  rw [wp_bnd]
  refine wp_congr fun x t => ?_
  rw [wp_bnd]
  refine wp_congr fun y u => ?_
  rw [wp_bnd]
  refine wp_congr fun z v => ?_
  cases z <;> first | rfl | skip
  rename_i k
  rw [onBl_bl]
  show wp (if k = true then bnd (c e) fun w => g y w else ret (.bl false)) v Q E = _
  rw [wp_sel, wp_bnd]
  rfl
@[simp ↓] theorem wp_cChain3 {f g h : D → D → Cm D} {a b c d : CE} : wp (cChain3 f g h a b c d e) s Q E u = wp (a e) s (fun x t => wp (b e) t (fun y u => wp (f x y) u (fun z v => onBl z fun k => sel k (wp (c e) v (fun w r => wp (g y w) r (fun z2 v2 => onBl z2 fun k2 => sel k2 (wp (d e) v2 (fun w2 r2 => wp (h w w2) r2 Q E) E) (Q (.bl false) v2)) E) E) (Q (.bl false) v)) E) E) E := by
  unfold cChain3
  rw [wp_bnd]
  refine wp_congr fun x t => ?_
  rw [wp_bnd]
  refine wp_congr fun y u => ?_
  rw [wp_bnd]
  refine wp_congr fun z v => ?_
  cases z <;> first | rfl | skip
  rename_i k
  rw [onBl_bl]
  refine (wp_sel (b := k)).trans (congrArg (fun z => sel k z _) ?_)
  rw [wp_bnd]
  refine wp_congr fun w r => ?_
  rw [wp_bnd]
  refine wp_congr fun z2 v2 => ?_
  cases z2 <;> first | rfl | skip
  rename_i k2
  rw [onBl_bl]
  refine (wp_sel (b := k2)).trans (congrArg (fun z => sel k2 z _) ?_)
  exact wp_bnd
/-! ### operators at values -/
@[simp ↓] theorem wp_dAdd {i j : Int} : wp (dAdd (.int i) (.int j)) s Q E u = vI (i + j) fun n => Q (.int n) s := propext Iff.rfl
@[simp ↓] theorem wp_iAdd {i j : Int} : wp (iAdd (.int i) (.int j)) s Q E u = vI (i + j) fun n => Q (.int n) s := propext Iff.rfl
@[simp ↓] theorem wp_dAddT {xs ys : List D} : wp (dAdd (.tup xs) (.tup ys)) s Q E u = gd (xs.length + ys.length ≤ big) (Q (.tup (xs ++ ys)) s) := wp_guard
@[simp ↓] theorem wp_dAddS {xs ys : Str} : wp (dAdd (.str xs) (.str ys)) s Q E u = gd (xs.length + ys.length ≤ big) (Q (.str (xs ++ ys)) s) := wp_guard
@[simp ↓] theorem wp_dSub {i j : Int} : wp (dSub (.int i) (.int j)) s Q E u = vI (i - j) fun n => Q (.int n) s := propext Iff.rfl
@[simp ↓] theorem wp_dMul {i j : Int} : wp (dMul (.int i) (.int j)) s Q E u = gd (mulOk i j) (vI (i * j) fun n => Q (.int n) s) := wp_guard
@[simp ↓] theorem wp_dMulT {xs : List D} {k : Int} : wp (dMul (.tup xs) (.int k)) s Q E u = gd (xs ≠ [] ∧ 2 ≤ k ∧ k ≤ 1000 ∧ xs.length ≤ 1000) (Q (.tup (List.replicate k.toNat xs).flatten) s) := wp_guard
@[simp ↓] theorem wp_dDiv {i j : Int} : wp (dDiv (.int i) (.int j)) s Q E u = gd (0 < j ∧ j < 2 ^ 128) (vI (i / j) fun n => Q (.int n) s) := wp_guard
@[simp ↓] theorem wp_dMod {i j : Int} : wp (dMod (.int i) (.int j)) s Q E u = gd (0 < j) (vI (i % j) fun n => Q (.int n) s) := wp_guard
@[simp ↓] theorem wp_dPow {i j : Int} : wp (dPow (.int i) (.int j)) s Q E u = gd (0 ≤ j ∧ j ≤ 1000000 ∧ -(2 ^ 64) < i ∧ i < 2 ^ 64) (vI (i ^ j.toNat) fun n => Q (.int n) s) := wp_guard
@[simp ↓] theorem wp_dShl {i j : Int} : wp (dShl (.int i) (.int j)) s Q E u = gd (0 ≤ j ∧ j ≤ 1000000 ∧ -(2 ^ 64) < i ∧ i < 2 ^ 64) (vI (i * p2 j) fun n => Q (.int n) s) := wp_guard
@[simp ↓] theorem wp_dShr {i j : Int} : wp (dShr (.int i) (.int j)) s Q E u = gd (0 ≤ j) (vI (i / p2 j) fun n => Q (.int n) s) := wp_guard
@[simp ↓] theorem wp_dAnd {i j : Int} : wp (dAnd (.int i) (.int j)) s Q E u = Q (.int (Builtin.bitAnd i j)) s := propext Iff.rfl
@[simp ↓] theorem wp_dOr {i j : Int} : wp (dOr (.int i) (.int j)) s Q E u = Q (.int (Builtin.bitOr i j)) s := propext Iff.rfl
@[simp ↓] theorem wp_dXor {i j : Int} : wp (dXor (.int i) (.int j)) s Q E u = Q (.int (Builtin.bitXor i j)) s := propext Iff.rfl
@[simp ↓] theorem wp_dNeg {i : Int} : wp (dNeg (.int i)) s Q E u = vI (-i) fun n => Q (.int n) s := propext Iff.rfl
@[simp ↓] theorem wp_dLt {i j : Int} : wp (dLt (.int i) (.int j)) s Q E u = Q (.bl (decide (i < j))) s := propext Iff.rfl
@[simp ↓] theorem wp_dLe {i j : Int} : wp (dLe (.int i) (.int j)) s Q E u = Q (.bl (decide (i ≤ j))) s := propext Iff.rfl
@[simp ↓] theorem wp_dGt {i j : Int} : wp (dGt (.int i) (.int j)) s Q E u = Q (.bl (decide (j < i))) s := propext Iff.rfl
@[simp ↓] theorem wp_dGe {i j : Int} : wp (dGe (.int i) (.int j)) s Q E u = Q (.bl (decide (j ≤ i))) s := propext Iff.rfl
@[simp ↓] theorem wp_dEqI {i j : Int} : wp (dEq (.int i) (.int j)) s Q E u = Q (.bl (decide (i = j))) s := propext Iff.rfl
@[simp ↓] theorem wp_dNeI {i j : Int} : wp (dNe (.int i) (.int j)) s Q E u = Q (.bl (!decide (i = j))) s := propext Iff.rfl
@[simp ↓] theorem wp_dEqS {i j : Str} : wp (dEq (.str i) (.str j)) s Q E u = Q (.bl (decide (i = j))) s := propext Iff.rfl
@[simp ↓] theorem wp_dNeS {i j : Str} : wp (dNe (.str i) (.str j)) s Q E u = Q (.bl (!decide (i = j))) s := propext Iff.rfl
@[simp ↓] theorem wp_dEqB {i j : Bool} : wp (dEq (.bl i) (.bl j)) s Q E u = Q (.bl (decide (i = j))) s := propext Iff.rfl
@[simp ↓] theorem wp_dNeB {i j : Bool} : wp (dNe (.bl i) (.bl j)) s Q E u = Q (.bl (!decide (i = j))) s := propext Iff.rfl
@[simp ↓] theorem wp_dIsB {i j : Bool} : wp (dIsB (.bl i) (.bl j)) s Q E u = Q (.bl (decide (i = j))) s := propext Iff.rfl
@[simp ↓] theorem wp_dNotB {i j : Bool} : wp (dNotB (.bl i) (.bl j)) s Q E u = Q (.bl (!decide (i = j))) s := propext Iff.rfl
@[simp ↓] theorem wp_dBits {i : Int} : wp (dBits (.int i)) s Q E u = Q (.int (Builtin.Int.intBits i : Nat)) s := propext Iff.rfl
@[simp ↓] theorem wp_dIsN {x : D} : wp (dIsN x) s Q E u = Q (.bl (isNon x)) s := propext Iff.rfl
@[simp ↓] theorem wp_dNotN {x : D} : wp (dNotN x) s Q E u = Q (.bl (!isNon x)) s := propext Iff.rfl
@[simp ↓] theorem wp_bMax {i j : Int} : wp (bMax [.int i, .int j]) s Q E u = vI (max i j) fun n => Q (.int n) s := by
  have e : (if j > i then j else i) = max i j := by split <;> omega
  show Q _ s = _
  rw [e]
  rfl
@[simp ↓] theorem wp_bMin {i j : Int} : wp (bMin [.int i, .int j]) s Q E u = vI (min i j) fun n => Q (.int n) s := by
  have e : (if j < i then j else i) = min i j := by split <;> omega
  show Q _ s = _
  rw [e]
  rfl
@[simp ↓] theorem wp_bAbs {i : Int} : wp (bAbs [.int i]) s Q E u = vI i.natAbs fun n => Q (.int n) s := by
  have e : (if i < 0 then -i else i) = (i.natAbs : Int) := by split <;> omega
  show Q _ s = _
  rw [e]
  rfl
@[simp ↓] theorem wp_bInt {i : Int} : wp (bInt [.int i]) s Q E u = Q (.int i) s := propext Iff.rfl
@[simp ↓] theorem wp_bIntB {i : Bool} : wp (bInt [.bl i]) s Q E u = Q (.int (if i then 1 else 0)) s := propext Iff.rfl
@[simp ↓] theorem wp_bLenT {xs : List D} : wp (bLen [.tup xs]) s Q E u = Q (.int xs.length) s := propext Iff.rfl
@[simp ↓] theorem wp_bLenL {xs : List D} : wp (bLen [.lst xs]) s Q E u = Q (.int xs.length) s := propext Iff.rfl
@[simp ↓] theorem wp_bLenS {z : Str} : wp (bLen [.str z]) s Q E u = gd (z.length ≤ big) (Q (.int z.length) s) := by
  unfold wp bLen gd
  by_cases c : z.length ≤ big
  · simp [itemsOf, c]
  · simp [itemsOf, c]
@[simp ↓] theorem wp_bListT {xs : List D} : wp (bList [.tup xs]) s Q E u = wp (alloc (.lst xs)) s Q E := propext Iff.rfl
@[simp ↓] theorem wp_bListL {xs : List D} : wp (bList [.lst xs]) s Q E u = wp (alloc (.lst xs)) s Q E := propext Iff.rfl
@[simp ↓] theorem wp_bTupleT {xs : List D} : wp (bTuple [.tup xs]) s Q E u = Q (.tup xs) s := propext Iff.rfl
@[simp ↓] theorem wp_bTupleL {xs : List D} : wp (bTuple [.lst xs]) s Q E u = Q (.tup xs) s := propext Iff.rfl
@[simp ↓] theorem wp_dIxT {xs : List D} {i : Int} : wp (dIx (.tup xs) (.int i)) s Q E u = atK xs i fun d => Q d s := by
  show wp (fun s => match itemsOf s (.tup xs), D.int i with | some xs, .int i => (match atI xs i with | some v => .ok v s | none => .no) | _, _ => .no) s Q E = _
  unfold wp atK
  simp only [itemsOf]
  cases atI xs i <;> rfl
@[simp ↓] theorem wp_dIxL {xs : List D} {i : Int} : wp (dIx (.lst xs) (.int i)) s Q E u = atK xs i fun d => Q d s := by
  show wp (fun s => match itemsOf s (.lst xs), D.int i with | some xs, .int i => (match atI xs i with | some v => .ok v s | none => .no) | _, _ => .no) s Q E = _
  unfold wp atK
  simp only [itemsOf]
  cases atI xs i <;> rfl
@[simp ↓] theorem wp_cBmL {f : D → List D → Cm D} {o : CE} {a : CA} : wp (cBmL f o a e) s Q E u = wp (o e) s (fun x t => wp (chkL x) t (fun _ u => wp (a e) u (fun xs v => wp (f x xs) v Q E) E) E) E := by
  unfold cBmL
  rw [wp_bnd]
  refine wp_congr fun x t => ?_
  rw [wp_bnd]
  refine wp_congr fun y u => ?_
  rw [wp_bnd]
@[simp ↓] theorem wp_cSl {a : CE} {lo hi : CO} : wp (cSl a lo hi e) s Q E u = wp (a e) s (fun x t => wp (lo e) t (fun l u => wp (hi e) u (fun h v => wp (dSl x l h) v Q E) E) E) E := by
  unfold cSl
  rw [wp_bnd]
  refine wp_congr fun x t => ?_
  rw [wp_bnd]
  refine wp_congr fun y u => ?_
  rw [wp_bnd]
@[simp ↓] theorem wp_oNone {P : Option Int → Sto → Prop} {u : Lk2 P E} : wp (oNone e) s P E u = P none s := propext Iff.rfl
@[simp ↓] theorem wp_oSome {a : CE} {P : Option Int → Sto → Prop} {u : Lk2 P E} : wp (oSome a e) s P E u = wp (a e) s (fun x t => onInt x fun i => P (some i) t) E := by
  unfold oSome
  rw [wp_bnd]
  exact wp_congr fun c t => by cases c <;> rfl
@[simp ↓] theorem wp_dSlT {xs : List D} {lo hi : Option Int} : wp (dSl (.tup xs) lo hi) s Q E u = Q (.tup (cutD xs lo hi)) s := propext Iff.rfl
@[simp ↓] theorem wp_dSlL {xs : List D} {lo hi : Option Int} : wp (dSl (.lst xs) lo hi) s Q E u = wp (alloc (.lst (cutD xs lo hi))) s Q E := propext Iff.rfl
theorem wp_dIsi {T t : String} {x : D} {b : Bool} (h : tyD s x = some t) (k : L2.kitB t T = some b) : wp (dIsi T x) s Q E u = Q (.bl b) s := by
  unfold wp dIsi
  simp only [h, k]
/-- isinstance, by a table of what is asked -/
@[simp ↓] theorem isi_ii {i : Int} : wp (dIsi "int" (.int i)) s Q E u = Q (.bl true) s := wp_dIsi rfl (by decide +kernel)
@[simp ↓] theorem isi_ib {i : Int} : wp (dIsi "bool" (.int i)) s Q E u = Q (.bl false) s := wp_dIsi rfl (by decide +kernel)
@[simp ↓] theorem isi_it {i : Int} : wp (dIsi "tuple" (.int i)) s Q E u = Q (.bl false) s := wp_dIsi rfl (by decide +kernel)
@[simp ↓] theorem isi_il {i : Int} : wp (dIsi "list" (.int i)) s Q E u = Q (.bl false) s := wp_dIsi rfl (by decide +kernel)
@[simp ↓] theorem isi_is {i : Int} : wp (dIsi "str" (.int i)) s Q E u = Q (.bl false) s := wp_dIsi rfl (by decide +kernel)
@[simp ↓] theorem isi_id {i : Int} : wp (dIsi "dict" (.int i)) s Q E u = Q (.bl false) s := wp_dIsi rfl (by decide +kernel)
@[simp ↓] theorem isi_bi {i : Bool} : wp (dIsi "int" (.bl i)) s Q E u = Q (.bl true) s := wp_dIsi rfl (by decide +kernel)
@[simp ↓] theorem isi_bb {i : Bool} : wp (dIsi "bool" (.bl i)) s Q E u = Q (.bl true) s := wp_dIsi rfl (by decide +kernel)
@[simp ↓] theorem isi_bt {i : Bool} : wp (dIsi "tuple" (.bl i)) s Q E u = Q (.bl false) s := wp_dIsi rfl (by decide +kernel)
@[simp ↓] theorem isi_tt {i : List D} : wp (dIsi "tuple" (.tup i)) s Q E u = Q (.bl true) s := wp_dIsi rfl (by decide +kernel)
@[simp ↓] theorem isi_tl {i : List D} : wp (dIsi "list" (.tup i)) s Q E u = Q (.bl false) s := wp_dIsi rfl (by decide +kernel)
@[simp ↓] theorem isi_ti {i : List D} : wp (dIsi "int" (.tup i)) s Q E u = Q (.bl false) s := wp_dIsi rfl (by decide +kernel)
@[simp ↓] theorem isi_ts {i : List D} : wp (dIsi "str" (.tup i)) s Q E u = Q (.bl false) s := wp_dIsi rfl (by decide +kernel)
@[simp ↓] theorem isi_td {i : List D} : wp (dIsi "dict" (.tup i)) s Q E u = Q (.bl false) s := wp_dIsi rfl (by decide +kernel)
@[simp ↓] theorem isi_ss {i : Str} : wp (dIsi "str" (.str i)) s Q E u = Q (.bl true) s := wp_dIsi rfl (by decide +kernel)
@[simp ↓] theorem isi_si {i : Str} : wp (dIsi "int" (.str i)) s Q E u = Q (.bl false) s := wp_dIsi rfl (by decide +kernel)
@[simp ↓] theorem isi_sb {i : Str} : wp (dIsi "bool" (.str i)) s Q E u = Q (.bl false) s := wp_dIsi rfl (by decide +kernel)
@[simp ↓] theorem isi_st {i : Str} : wp (dIsi "tuple" (.str i)) s Q E u = Q (.bl false) s := wp_dIsi rfl (by decide +kernel)
@[simp ↓] theorem isi_sl {i : Str} : wp (dIsi "list" (.str i)) s Q E u = Q (.bl false) s := wp_dIsi rfl (by decide +kernel)
@[simp ↓] theorem isi_sd {i : Str} : wp (dIsi "dict" (.str i)) s Q E u = Q (.bl false) s := wp_dIsi rfl (by decide +kernel)
@[simp ↓] theorem isi_ni : wp (dIsi "int" .non) s Q E u = Q (.bl false) s := wp_dIsi rfl (by decide +kernel)
@[simp ↓] theorem isi_nt : wp (dIsi "tuple" .non) s Q E u = Q (.bl false) s := wp_dIsi rfl (by decide +kernel)
@[simp ↓] theorem isi_nl : wp (dIsi "list" .non) s Q E u = Q (.bl false) s := wp_dIsi rfl (by decide +kernel)
@[simp ↓] theorem isi_nd : wp (dIsi "dict" .non) s Q E u = Q (.bl false) s := wp_dIsi rfl (by decide +kernel)
@[simp ↓] theorem isi_ns : wp (dIsi "str" .non) s Q E u = Q (.bl false) s := wp_dIsi rfl (by decide +kernel)
/-- in, of written things -/
@[simp ↓] theorem wp_dInT {neg : Bool} {x : D} {ys : List D} : wp (dIn neg x (.tup ys)) s Q E u = gd (flatD x = true ∧ ys.all flatD = true) (Q (.bl (if neg then !inD x ys else inD x ys)) s) := by
  unfold wp dIn gd
  simp only [itemsOf]
  by_cases c : flatD x = true ∧ ys.all flatD = true
  · rw [if_pos c]; exact (propext ⟨fun z => ⟨c, z⟩, fun z => z.2⟩)
  · rw [if_neg c]; exact (propext ⟨fun z => z.elim, fun z => c z.1⟩)
@[simp] theorem flat_non : flatD .non = true := rfl
@[simp] theorem flat_bl {b : Bool} : flatD (.bl b) = true := rfl
@[simp] theorem flat_int {b : Int} : flatD (.int b) = true := rfl
@[simp] theorem flat_str {b : Str} : flatD (.str b) = true := rfl
@[simp] theorem isNon_non : isNon .non = true := rfl
@[simp] theorem isNon_bl {b : Bool} : isNon (.bl b) = false := rfl
@[simp] theorem isNon_int {b : Int} : isNon (.int b) = false := rfl
@[simp] theorem isNon_str {b : Str} : isNon (.str b) = false := rfl
@[simp] theorem isNon_tup {b : List D} : isNon (.tup b) = false := rfl
@[simp] theorem isNon_lst {b : List D} : isNon (.lst b) = false := rfl
@[simp] theorem isNon_box {b : Nat} : isNon (.box b) = false := rfl
@[simp] theorem wipe0 {e : En} : wipeE e [] = e := rfl
@[simp] theorem wipes {e : En} {v : Nat} {vs : List Nat} : wipeE e (v :: vs) = st (wipeE e vs) v none := rfl
@[simp] theorem st0 {x d : Option D} {r : En} : st (x :: r) 0 d = d :: r := rfl
@[simp] theorem sts {x d : Option D} {r : En} {n : Nat} : st (x :: r) (n + 1) d = x :: st r n d := rfl
@[simp] theorem big_n : big = 1000000 := rfl
/-! ### lists that nobody holds on to -/
@[simp ↓] theorem wp_cNew {a : CA} : wp (cNew a e) s Q E u = wp (a e) s (fun xs t => wp (alloc (.lst xs)) t Q E) E := by
  unfold cNew
  rw [wp_bnd]
@[simp ↓] theorem wp_cChk {a : CA} {P : List D → Sto → Prop} {u : Lk2 P E} : wp (cChk a e) s P E u = wp (a e) s (fun xs t => gd (xs.length ≤ big) (P xs t)) E := by
  unfold cChk
  rw [wp_bnd]
  exact wp_congr fun x t => wp_guard
@[simp ↓] theorem wp_cPick {a : CA} {b : CE} : wp (cPick a b e) s Q E u = wp (a e) s (fun xs t => wp (b e) t (fun y u => onInt y fun i => atK xs i fun v => Q v u) E) E := by
  unfold cPick
  rw [wp_bnd]
  refine wp_congr fun xs t => ?_
  rw [wp_bnd]
  refine wp_congr fun y u => ?_
  cases y <;> first | rfl | skip
  rename_i i
  rw [onInt_int]
  unfold atK pickD
  cases h : atI xs i <;> simp only [h] <;> rfl
@[simp ↓] theorem wp_cInA {neg : Bool} {b : CE} {a : CA} : wp (cInA neg b a e) s Q E u = wp (b e) s (fun x t => wp (a e) t (fun ys u => gd (flatD x = true ∧ ys.all flatD = true) (Q (.bl (if neg then !inD x ys else inD x ys)) u)) E) E := by
  unfold cInA
  rw [wp_bnd]
  refine wp_congr fun x t => ?_
  rw [wp_bnd]
  exact wp_congr fun y u => wp_guard
@[simp ↓] theorem wp_cTp {a : CA} : wp (cTp a e) s Q E u = wp (a e) s (fun xs t => Q (.tup xs) t) E := by
  unfold cTp
  rw [wp_bnd]
  rfl
@[simp ↓] theorem wp_cLn {a : CA} : wp (cLn a e) s Q E u = wp (a e) s (fun xs t => Q (.int xs.length) t) E := by
  unfold cLn
  rw [wp_bnd]
  rfl
@[simp ↓] theorem wp_cAllA {a : CA} : wp (cAllA a e) s Q E u = wp (a e) s (fun xs t => gd (xs.all isBl = true) (Q (.bl (xs.all blOf)) t)) E := by
  unfold cAllA
  rw [wp_bnd]
  exact wp_congr fun x t => wp_guard
@[simp ↓] theorem wp_cSumA {a : CA} : wp (cSumA a e) s Q E u = wp (a e) s (fun xs t => wp (sumA xs) t Q E) E := by
  unfold cSumA
  rw [wp_bnd]
@[simp ↓] theorem wp_cMaxA {a : CA} : wp (cMaxA a e) s Q E u = wp (a e) s (fun xs t => wp (maxA xs) t Q E) E := by
  unfold cMaxA
  rw [wp_bnd]
theorem wp_sumA {xs : List D} {ns : List Int} (h : intsD xs = some ns) (k : Q (.int ns.sum) s) : wp (sumA xs) s Q E u := by
  unfold sumA; rw [h]; exact k
theorem wp_maxA {xs : List D} {ns : List Int} (h : intsD xs = some ns) (h0 : 0 < ns.length) (k : Q (.int (maxD ns)) s) : wp (maxA xs) s Q E u := by
  unfold maxA; rw [h]; show wp (if 0 < ns.length then ret (.int (maxD ns)) else noC) s Q E; rw [if_pos h0]; exact k
theorem intsD_map {ns : List Int} : intsD (ns.map D.int) = some ns := by
  induction ns with
  | nil => rfl
  | cons n ns ih => simp only [List.map_cons, intsD, ih]; rfl
/-! ### a def -/
theorem wp_dfn {n m : Nat} {c : CS} {ds : List D} (h : ds.length = n) (k : ws c (ds.map some ++ List.replicate (m - n) none) s (fun _ t => Q .non t) Q NE NE E) : wp (dfn n m c ds) s Q E u := by
  unfold dfn
  rw [if_pos h]
  unfold ws at k
  generalize ds.map some ++ List.replicate (m - n) none = env at k ⊢
  unfold wp bnd at *
  cases e : c env s with
  | ok fl t =>
    rw [e] at k
    cases fl <;> exact k
  | ex _ _ _ => rw [e] at k; exact k.elim
  | no => rw [e] at k; exact k
/-- from a wp to a run -/
theorem run_of_wp {g : Cm D} {s : Sto} {d : D} (h : wp g s (fun x _ => x = d) NX) : ∃ t, g s = .ok d t := by
  unfold wp at h
  cases e : g s with
  | ok a t => rw [e] at h; exact ⟨t, by rw [← (show a = d from h)]⟩
  | ex _ _ _ => rw [e] at h; exact h.elim
  | no => rw [e] at h; exact h.elim
end
/-! ### the store: what stands at a box, what stays, what is new -/
def At (s : Sto) (j : Nat) (m : MO) : Prop := s[j]? = some m
def Fr (js : List Nat) (s t : Sto) : Prop := s.length ≤ t.length ∧ ∀ i, i < s.length → i ∉ js → t[i]? = s[i]?
def Nw (s : Sto) (j : Nat) : Prop := s.length ≤ j
theorem At.lt {s : Sto} {j : Nat} {m : MO} (h : At s j m) : j < s.length := (List.getElem?_eq_some_iff.mp h).1
theorem At.fr {js : List Nat} {s t : Sto} {i : Nat} {m : MO} (f : Fr js s t) (h : At s i m) (n : i ∉ js) : At t i m := (f.2 i h.lt n).trans h
theorem At.fr0 {s t : Sto} {i : Nat} {m : MO} (f : Fr [] s t) (h : At s i m) : At t i m := h.fr f (by simp)
theorem At.fr1 {s t : Sto} {i j : Nat} {m : MO} (f : Fr [j] s t) (h : At s i m) (n : i ≠ j) : At t i m := h.fr f (by simpa using n)
theorem At.fr2 {s t : Sto} {i j k : Nat} {m : MO} (f : Fr [j, k] s t) (h : At s i m) (n : i ≠ j) (n' : i ≠ k) : At t i m := h.fr f (by simp; exact ⟨n, n'⟩)
theorem At.same {s : Sto} {j : Nat} {m m' : MO} (h : At s j m) (h' : At s j m') : m = m' := Option.some.inj (h.symm.trans h')
theorem Nw.ne {s : Sto} {i j : Nat} (n : Nw s j) (h : i < s.length) : i ≠ j := fun e => by unfold Nw at n; omega
theorem Nw.ne' {s : Sto} {i j : Nat} (n : Nw s j) (h : i < s.length) : j ≠ i := fun e => by unfold Nw at n; omega
theorem Fr.lt {js : List Nat} {s t : Sto} {i : Nat} (f : Fr js s t) (h : i < s.length) : i < t.length := Nat.lt_of_lt_of_le h f.1
theorem Fr.refl {js : List Nat} {s : Sto} : Fr js s s := ⟨Nat.le_refl _, fun _ _ _ => rfl⟩
theorem Fr.trans {js : List Nat} {s t u : Sto} (a : Fr js s t) (b : Fr js t u) : Fr js s u := ⟨Nat.le_trans a.1 b.1, fun i h n => (b.2 i (Nat.lt_of_lt_of_le h a.1) n).trans (a.2 i h n)⟩
theorem Fr.up {js : List Nat} {s t : Sto} (a : Fr [] s t) : Fr js s t := ⟨a.1, fun i h _ => a.2 i h (by simp)⟩
theorem Fr.sub {js ks : List Nat} {s t : Sto} (a : Fr js s t) (h : ∀ i ∈ js, i ∈ ks) : Fr ks s t := ⟨a.1, fun i hi n => a.2 i hi fun q => n (h i q)⟩
theorem Fr.nw {js : List Nat} {s t : Sto} {j : Nat} (a : Fr js s t) (n : Nw t j) : Nw s j := Nat.le_trans a.1 n
/-- changes of new things don't count -/
theorem Fr.new {js : List Nat} {s t u : Sto} {j : Nat} (a : Fr js s t) (n : Nw s j) (b : Fr [j] t u) : Fr js s u := ⟨Nat.le_trans a.1 b.1, fun i h k => (b.2 i (Nat.lt_of_lt_of_le h a.1) (by simp; exact n.ne h)).trans (a.2 i h k)⟩
theorem Fr.new2 {js : List Nat} {s t u : Sto} {j k : Nat} (a : Fr js s t) (n : Nw s j) (b : Fr [j, k] t u) (hk : k ∈ js) : Fr js s u := ⟨Nat.le_trans a.1 b.1, fun i h q => (b.2 i (Nat.lt_of_lt_of_le h a.1) (by simp; exact ⟨n.ne h, fun e => q (e ▸ hk)⟩)).trans (a.2 i h q)⟩
theorem lAt_at {s : Sto} {j : Nat} {xs : List D} (h : At s j (.lst xs)) : lAt s j = some xs := by
  unfold lAt
  rw [h]
theorem at_set {s : Sto} {j : Nat} {m m' : MO} (h : At s j m) : At (s.set j m') j m' := List.getElem?_set_self h.lt
theorem fr_set {s : Sto} {j : Nat} {m : MO} : Fr [j] s (s.set j m) := ⟨by simp, fun i h n => List.getElem?_set_ne (fun e => n (by rw [e]; exact List.mem_singleton_self _))⟩
theorem fr_push {s : Sto} {m : MO} : Fr [] s (s ++ [m]) := ⟨by simp, fun i h _ => List.getElem?_append_left h⟩
theorem at_push {s : Sto} {m : MO} : At (s ++ [m]) s.length m := by unfold At; simp
section
variable {s : Sto} {Q : D → Sto → Prop} {E : XP} {u : Lk2 Q E}
theorem r_new {m : MO} (q : ∀ t j, At t j m → Nw s j → Fr [] s t → Q (.box j) t) : wp (alloc m) s Q E u := q _ _ at_push (Nat.le_refl _) fr_push
theorem r_ix {j : Nat} {xs : List D} {i : Int} (h : At s j (.lst xs)) (k : atK xs i fun v => Q v s) : wp (dIx (.box j) (.int i)) s Q E u := by
  unfold wp dIx
  simp only [rowOf, itemsOf, lAt_at h]
  unfold atK at k
  cases e : atI xs i with
  | none => rw [e] at k; exact k
  | some v => rw [e] at k; exact k
theorem r_len {j : Nat} {xs : List D} (h : At s j (.lst xs)) (k : Q (.int xs.length) s) : wp (bLen [.box j]) s Q E u := by
  unfold wp bLen
  simp only [itemsOf, lAt_at h]
  exact k
theorem r_chk {j : Nat} {xs : List D} {P : Unit → Sto → Prop} {u : Lk2 P E} (h : At s j (.lst xs)) (k : P () s) : wp (chkL (.box j)) s P E u := by
  unfold wp chkL
  simp only [lAt_at h]
  exact k
theorem r_app {j : Nat} {xs : List D} {v : D} (h : At s j (.lst xs)) (hl : xs.length < big) (k : ∀ t, At t j (.lst (xs ++ [v])) → Fr [j] s t → Q .non t) : wp (dApp (.box j) [v]) s Q E u := by
  unfold wp dApp
  simp only [lAt_at h]
  rw [if_pos hl]
  exact k _ (at_set h) fr_set
theorem r_ext {j i : Nat} {xs ys : List D} (h : At s j (.lst xs)) (h' : At s i (.lst ys)) (hl : xs.length + ys.length ≤ big) (k : ∀ t, At t j (.lst (xs ++ ys)) → Fr [j] s t → Q .non t) : wp (dExt (.box j) [.box i]) s Q E u := by
  unfold wp dExt
  simp only [lAt_at h, lAt_at h']
  rw [if_pos hl]
  exact k _ (at_set h) fr_set
theorem r_clear {j : Nat} {xs : List D} (h : At s j (.lst xs)) (k : ∀ t, At t j (.lst []) → Fr [j] s t → Q .non t) : wp (dClear (.box j) []) s Q E u := by
  unfold wp dClear
  simp only [lAt_at h]
  exact k _ (at_set h) fr_set
theorem r_put {j : Nat} {xs : List D} {i : Int} {m : Nat} {v : D} {P : Unit → Sto → Prop} {u : Lk2 P E} (h : At s j (.lst xs)) (hm : ixN xs.length i = some m) (k : ∀ t, At t j (.lst (xs.set m v)) → Fr [j] s t → P () t) : wp (dPutL (.box j) (.int i) v) s P E u := by
  unfold wp dPutL
  simp only [lAt_at h, hm]
  exact k _ (at_set h) fr_set
theorem ixN_nat {n : Nat} {i : Int} (h0 : 0 ≤ i) (h1 : i < n) : ixN n i = some i.toNat := by
  unfold ixN
  rw [if_pos (by omega), if_pos (by omega)]
theorem r_putT {j : Nat} {xs : List D} {i : Int} {v : D} {P : Unit → Sto → Prop} {u : Lk2 P E} (h : At s j (.lst xs)) (h0 : 0 ≤ i) (h1 : i < xs.length) (k : ∀ t, At t j (.lst (xs.set i.toNat v)) → Fr [j] s t → P () t) : wp (dPutL (.box j) (.int i) v) s P E u := r_put h (ixN_nat h0 h1) k
theorem r_slL {j : Nat} {xs : List D} {lo hi : Option Int} (h : At s j (.lst xs)) (k : wp (alloc (.lst (cutD xs lo hi))) s Q E) : wp (dSl (.box j) lo hi) s Q E u := by
  unfold wp dSl
  simp only [lAt_at h]
  exact k
theorem r_listB {j : Nat} {xs : List D} (h : At s j (.lst xs)) (k : wp (alloc (.lst xs)) s Q E) : wp (bList [.box j]) s Q E u := by
  unfold wp bList
  simp only [itemsOf, lAt_at h]
  exact k
theorem r_tupleB {j : Nat} {xs : List D} (h : At s j (.lst xs)) (k : Q (.tup xs) s) : wp (bTuple [.box j]) s Q E u := by
  unfold wp bTuple
  simp only [itemsOf, lAt_at h]
  exact k
theorem r_addL {i j : Nat} {xs ys : List D} (h : At s i (.lst xs)) (h' : At s j (.lst ys)) (hl : xs.length + ys.length ≤ big) (k : wp (alloc (.lst (xs ++ ys))) s Q E) : wp (dAdd (.box i) (.box j)) s Q E u := by
  show wp (fun s => match lAt s i, lAt s j with | some xs, some ys => if xs.length + ys.length ≤ big then alloc (.lst (xs ++ ys)) s else .no | _, _ => .no) s Q E
  unfold wp at *
  simp only [lAt_at h, lAt_at h', if_pos hl]
  exact k
theorem r_mulL {i : Nat} {xs : List D} {n : Int} (h : At s i (.lst xs)) (hl : -(2 ^ 62) < n ∧ n < 2 ^ 62 ∧ xs.length * n.toNat ≤ big) (k : wp (alloc (.lst (List.replicate n.toNat xs).flatten)) s Q E) : wp (dMul (.box i) (.int n)) s Q E u := by
  show wp (fun s => match lAt s i with | some xs => if -(2 ^ 62) < n ∧ n < 2 ^ 62 ∧ xs.length * n.toNat ≤ big then alloc (.lst (List.replicate n.toNat xs).flatten) s else .no | _ => .no) s Q E
  unfold wp at *
  simp only [lAt_at h, if_pos hl]
  exact k
theorem r_inL {neg : Bool} {x : D} {j : Nat} {ys : List D} (h : At s j (.lst ys)) (c : flatD x = true ∧ ys.all flatD = true) (k : Q (.bl (if neg then !inD x ys else inD x ys)) s) : wp (dIn neg x (.box j)) s Q E u := by
  unfold wp dIn
  simp only [itemsOf, lAt_at h]
  rw [if_pos c]
  exact k
theorem ty_lst {j : Nat} {ys : List D} (h : At s j (.lst ys)) : tyD s (.box j) = some "list" := by
  have e : s[j]? = some (.lst ys) := h
  simp only [tyD, e]
theorem r_isiLL {j : Nat} {ys : List D} (h : At s j (.lst ys)) (k : Q (.bl true) s) : wp (dIsi "list" (.box j)) s Q E u := by
  rw [wp_dIsi (t := "list") (b := true) (ty_lst h) (by decide +kernel)]
  exact k
theorem r_isiLT {j : Nat} {ys : List D} (h : At s j (.lst ys)) (k : Q (.bl false) s) : wp (dIsi "tuple" (.box j)) s Q E u := by
  rw [wp_dIsi (t := "list") (b := false) (ty_lst h) (by decide +kernel)]
  exact k
theorem r_isiLI {j : Nat} {ys : List D} (h : At s j (.lst ys)) (k : Q (.bl false) s) : wp (dIsi "int" (.box j)) s Q E u := by
  rw [wp_dIsi (t := "list") (b := false) (ty_lst h) (by decide +kernel)]
  exact k
theorem r_isiLD {j : Nat} {ys : List D} (h : At s j (.lst ys)) (k : Q (.bl false) s) : wp (dIsi "dict" (.box j)) s Q E u := by
  rw [wp_dIsi (t := "list") (b := false) (ty_lst h) (by decide +kernel)]
  exact k
/-- == of the same data -/
theorem r_eq {x y : D} {b : Bool} (h : eqX s x y = some b) (k : Q (.bl b) s) : wp (dEq x y) s Q E u := by
  unfold wp dEq; simp only [h]; exact k
theorem r_ne {x y : D} {b : Bool} (h : eqX s x y = some b) (k : Q (.bl (!b)) s) : wp (dNe x y) s Q E u := by
  unfold wp dNe; simp only [h]; exact k
end
/-! ### slots that a loop keeps -/
/-- the slots by a pattern: what is told, the others anything -/
def fill : List (Option D) → (Nat → Option D) → Nat → En
  | [], _, _ => []
  | some d :: r, f, n => some d :: fill r f (n + 1)
  | none :: r, f, n => f n :: fill r f (n + 1)
@[simp] theorem fill_nil {f : Nat → Option D} {n : Nat} : fill [] f n = [] := rfl
@[simp] theorem fill_some {d : D} {r : List (Option D)} {f : Nat → Option D} {n : Nat} : fill (some d :: r) f n = some d :: fill r f (n + 1) := rfl
@[simp] theorem fill_none {r : List (Option D)} {f : Nat → Option D} {n : Nat} : fill (none :: r) f n = f n :: fill r f (n + 1) := rfl
def Sl : En → List (Option D) → Prop
  | [], [] => True
  | a :: e, some d :: r => a = some d ∧ Sl e r
  | _ :: e, none :: r => Sl e r
  | _, _ => False
theorem Sl_fill : ∀ {e : En} {p : List (Option D)} (n : Nat), Sl e p → ∃ f : Nat → Option D, e = fill p f n
  | [], [], n, _ => ⟨fun _ => none, rfl⟩
  | a :: e, some d :: r, n, h => by
    obtain ⟨rfl, h⟩ := h
    obtain ⟨f, rfl⟩ := Sl_fill (n + 1) h
    exact ⟨f, rfl⟩
  | a :: e, none :: r, n, h => by
    obtain ⟨f, rfl⟩ := Sl_fill (n + 1) (show Sl e r from h)
    refine ⟨fun i => if i = n then a else f i, ?_⟩
    have go : ∀ (r : List (Option D)) (m : Nat), n < m → fill r f m = fill r (fun i => if i = n then a else f i) m := by
      intro r
      induction r with
      | nil => intro m _; rfl
      | cons x r ih =>
        intro m hm
        cases x with
        | some d => rw [fill_some, fill_some, ih _ (by omega)]
        | none => rw [fill_none, fill_none, ih _ (by omega), if_neg (by omega)]
    rw [fill_none, if_pos rfl, go r (n + 1) (by omega)]
  | [], _ :: _, _, h => h.elim
  | _ :: _, [], _, h => h.elim
/-! ### loops -/
section
variable {s : Sto} {N B C : En → Sto → Prop} {Rt : D → Sto → Prop} {E : XP} {v : Lk5 N Rt B C E}
/-- a for, by an invariant over (turn, slots, store) -/
theorem forL_inv {src : Src} {all : List D} {tg : Tg} {b : CS} (I : Nat → En → Sto → Prop) (hi : ∀ i e t, I i e t → src.items t = some all)
    (turn : ∀ i x e t, all[i]? = some x → I i e t → withT tg x e fun e' => ws b e' t (I (i + 1)) Rt N (I (i + 1)) E) (done : ∀ e t, I all.length e t → N e t) :
    ∀ (r : List D) (i : Nat) e t, all.drop i = r → i ≤ all.length → I i e t → wp (forL src all tg b r e) t (fun fl t => match fl with
      | .nx e' => N e' t
      | .rt d => Rt d t
      | .bk e' => B e' t
      | .ct e' => C e' t
      | .ex c fs _ => E c fs t) NX := by
  intro r
  induction r with
  | nil =>
    intro i e t hr hl h
    have : i = all.length := by
      have := congrArg List.length hr
      simp at this
      omega
    subst this
    unfold wp forL
    rw [if_pos (hi _ e t h)]
    exact done e t h
  | cons x r ih =>
    intro i e t hr hl h
    have hlt : i < all.length := by
      have := congrArg List.length hr
      simp at this
      omega
    have hx : all[i]? = some x := by
      rw [List.drop_eq_getElem_cons hlt] at hr
      rw [List.getElem?_eq_getElem hlt]
      exact congrArg some (List.cons.inj hr).1
    have hr' : all.drop (i + 1) = r := by
      rw [List.drop_eq_getElem_cons hlt] at hr
      exact (List.cons.inj hr).2
    have k := turn i x e t hx h
    unfold withT at k
    cases eb : bindT tg x e with
    | none => rw [eb] at k; exact k.elim
    | some e' =>
    rw [eb] at k
    have e1 : ∀ P E, wp (forL src all tg b (x :: r) e) t P E = wp (bnd (b e') (fun fl => match fl with
        | .nx e2 => forL src all tg b r e2
        | .ct e2 => forL src all tg b r e2
        | .bk e2 => ret (.nx e2)
        | .rt d => ret (.rt d)
        | .ex c fs e2 => ret (.ex c fs e2))) t P E := by
      intro P E
      unfold wp
      conv => lhs; unfold forL
      rw [if_pos (hi i e t h)]
      simp only [eb]
      all_goals rfl
    rw [e1, wp_bnd]
    unfold ws at k
    refine wp_mono k (fun fl u q => ?_) fun _ _ _ z => z
    cases fl with
    | nx e2 => exact ih (i + 1) e2 u hr' hlt q
    | ct e2 => exact ih (i + 1) e2 u hr' hlt q
    | bk e2 => exact q
    | rt d => exact q
    | ex c fs e2 => exact q
/-- a for whose source is known: what is left to be shown -/
def wfor (w : Src) (tg : Tg) (b : CS) (e : En) (s : Sto) (N : En → Sto → Prop) (Rt : D → Sto → Prop) (B C : En → Sto → Prop) (E : XP) (_ : Lk5 N Rt B C E := .u) : Prop := ∃ (all : List D) (I : Nat → En → Sto → Prop), w.items s = some all ∧ I 0 e s ∧ (∀ i e t, I i e t → w.items t = some all) ∧
    (∀ i x e t, all[i]? = some x → I i e t → withT tg x e fun e' => ws b e' t (I (i + 1)) Rt N (I (i + 1)) E) ∧ ∀ e t, I all.length e t → N e t
theorem ws_for {c : CS'} {tg : Tg} {b : CS} {e : En} (h : wp (c e) s (fun w t => wfor w tg b e t N Rt B C E) E) : ws (sFor c tg b) e s N Rt B C E v := by
  unfold ws sFor
  rw [wp_lft]
  refine wp_mono h (fun w t ⟨all, I, h1, h2, h3, h4, h5⟩ => ?_) fun _ _ _ z => z
  have q := forL_inv (B := B) (C := C) I h3 h4 h5 all 0 e t rfl (Nat.zero_le _) h2
  unfold wp at q ⊢
  simp only [h1]
  exact q
/-- over any known row -/
theorem wfor_i {w : Src} {tg : Tg} {b : CS} {e : En} {s : Sto} {v : Lk5 N Rt B C E} (all : List D) {σ : Type} (L : Nat → σ → List (Option D)) (I : Nat → σ → Sto → Prop) (a0 : σ) (hw : w.items s = some all) (h0 : Sl e (L 0 a0)) (h1 : I 0 a0 s) (hs : ∀ i a t, I i a t → w.items t = some all)
    (turn : ∀ i x a f t, all[i]? = some x → I i a t → withT tg x (fill (L i a) f 0) fun e' => ws b e' t (fun e2 u => dn (∃ a', Sl e2 (L (i + 1) a') ∧ I (i + 1) a' u)) Rt N (fun e2 u => dn (∃ a', Sl e2 (L (i + 1) a') ∧ I (i + 1) a' u)) E)
    (done : ∀ a f t, I all.length a t → onE (fill (L all.length a) f 0) fun e0 => N e0 t) : wfor w tg b e s N Rt B C E v := by
  refine ⟨all, fun i e t => ∃ a, Sl e (L i a) ∧ I i a t, hw, ⟨a0, h0, h1⟩, fun i e t ⟨a, _, h⟩ => hs i a t h, fun i x e t hx ⟨a, h, k⟩ => ?_, fun e t ⟨a, h, k⟩ => ?_⟩
  · obtain ⟨f, rfl⟩ := Sl_fill 0 h
    exact turn i x a f t hx k
  · obtain ⟨f, rfl⟩ := Sl_fill 0 h
    exact done a f t k
theorem rngD_len {lo : Int} {n : Nat} : (rngD lo n).length = n := by simp [rngD]
theorem rngD_get {lo : Int} {n i : Nat} {x : D} (h : (rngD lo n)[i]? = some x) : i < n ∧ x = .int (lo + i) := by
  unfold rngD at h
  rw [List.getElem?_map] at h
  by_cases q : i < n
  · rw [List.getElem?_range q] at h
    cases h
    exact ⟨q, rfl⟩
  · rw [List.getElem?_eq_none (by simpa using q)] at h
    cases h
/-- over a range -/
theorem wfor_r {lo : Int} {n : Nat} {tg : Tg} {b : CS} {e : En} {s : Sto} {v : Lk5 N Rt B C E} {σ : Type} (L : Nat → σ → List (Option D)) (I : Nat → σ → Sto → Prop) (a0 : σ) (h0 : Sl e (L 0 a0)) (h1 : I 0 a0 s)
    (turn : ∀ i a f t, i < n → I i a t → withT tg (.int (lo + i)) (fill (L i a) f 0) fun e' => ws b e' t (fun e2 u => dn (∃ a', Sl e2 (L (i + 1) a') ∧ I (i + 1) a' u)) Rt N (fun e2 u => dn (∃ a', Sl e2 (L (i + 1) a') ∧ I (i + 1) a' u)) E)
    (done : ∀ a f t, I n a t → onE (fill (L n a) f 0) fun e0 => N e0 t) : wfor (.rng lo n) tg b e s N Rt B C E v := by
  refine wfor_i (rngD lo n) L I a0 rfl h0 h1 (fun _ _ _ _ => rfl) (fun i x a f t hx h => ?_) (fun a f t h => ?_)
  · obtain ⟨hi, rfl⟩ := rngD_get hx
    exact turn i a f t hi h
  · rw [rngD_len] at h ⊢
    exact done a f t h
/-- over a tuple -/
theorem wfor_t {all : List D} {tg : Tg} {b : CS} {e : En} {s : Sto} {v : Lk5 N Rt B C E} {σ : Type} (L : Nat → σ → List (Option D)) (I : Nat → σ → Sto → Prop) (a0 : σ) (h0 : Sl e (L 0 a0)) (h1 : I 0 a0 s)
    (turn : ∀ i x a f t, all[i]? = some x → I i a t → withT tg x (fill (L i a) f 0) fun e' => ws b e' t (fun e2 u => dn (∃ a', Sl e2 (L (i + 1) a') ∧ I (i + 1) a' u)) Rt N (fun e2 u => dn (∃ a', Sl e2 (L (i + 1) a') ∧ I (i + 1) a' u)) E)
    (done : ∀ a f t, I all.length a t → onE (fill (L all.length a) f 0) fun e0 => N e0 t) : wfor (.seq (.tup all)) tg b e s N Rt B C E v :=
  wfor_i all L I a0 rfl h0 h1 (fun _ _ _ _ => rfl) turn done
/-- over a list that stands still -/
theorem wfor_b {j : Nat} {all : List D} {tg : Tg} {b : CS} {e : En} {s : Sto} {v : Lk5 N Rt B C E} {σ : Type} (hj : At s j (.lst all)) (L : Nat → σ → List (Option D)) (I : Nat → σ → Sto → Prop) (a0 : σ) (h0 : Sl e (L 0 a0)) (h1 : I 0 a0 s) (hs : ∀ i a t, I i a t → At t j (.lst all))
    (turn : ∀ i x a f t, all[i]? = some x → I i a t → withT tg x (fill (L i a) f 0) fun e' => ws b e' t (fun e2 u => dn (∃ a', Sl e2 (L (i + 1) a') ∧ I (i + 1) a' u)) Rt N (fun e2 u => dn (∃ a', Sl e2 (L (i + 1) a') ∧ I (i + 1) a' u)) E)
    (done : ∀ a f t, I all.length a t → onE (fill (L all.length a) f 0) fun e0 => N e0 t) : wfor (.seq (.box j)) tg b e s N Rt B C E v :=
  wfor_i all L I a0 (lAt_at hj) h0 h1 (fun i a t h => lAt_at (hs i a t h)) turn done
@[simp ↓] theorem wp_iRng {a : CE} {e : En} {P : Src → Sto → Prop} {u : Lk2 P E} : wp (iRng a e) s P E u = wp (a e) s (fun d t => onInt d fun j => gd (-(2 ^ 62) ≤ j ∧ j < 2 ^ 62) (P (.rng 0 j.toNat) t)) E := by
  unfold iRng
  rw [wp_bnd]
  exact wp_congr fun d t => by cases d <;> first | rfl | exact wp_guard
@[simp ↓] theorem wp_iRng2 {a b : CE} {e : En} {P : Src → Sto → Prop} {u : Lk2 P E} : wp (iRng2 a b e) s P E u = wp (a e) s (fun c t => wp (b e) t (fun d u => onInt c fun i => onInt d fun j => gd (-(2 ^ 62) ≤ i ∧ i < 2 ^ 62 ∧ -(2 ^ 62) ≤ j ∧ j < 2 ^ 62) (P (.rng i (j - i).toNat) u)) E) E := by
  unfold iRng2
  rw [wp_bnd]
  refine wp_congr fun c t => ?_
  rw [wp_bnd]
  refine wp_congr fun d u => ?_
  cases c <;> first | rfl | skip
  cases d <;> first | rfl | exact wp_guard
@[simp ↓] theorem wp_iSeq {a : CE} {e : En} {P : Src → Sto → Prop} {u : Lk2 P E} : wp (iSeq a e) s P E u = wp (a e) s (fun d t => gd (∃ xs, rowOf t d = some xs) (P (.seq d) t)) E := by
  unfold iSeq
  rw [wp_bnd]
  refine wp_congr fun d t => ?_
  unfold wp gd
  dsimp only
  cases q : rowOf t d with
  | none => exact propext ⟨fun z => False.elim z, fun ⟨⟨_, z⟩, _⟩ => nomatch z⟩
  | some xs => exact propext ⟨fun z => ⟨⟨xs, rfl⟩, z⟩, fun z => z.2⟩
/-- a while, by an invariant with a measure -/
theorem ws_while0 {t : CT} {b : CS} {e : En} (I : Nat → En → Sto → Prop) (m : Nat) (h0 : I m e s) (hm : m < turnsMost)
    (turn : ∀ m e s, I m e s → wp (t e) s (fun c u => sel c (ws b e u (fun e' v => ∃ m', m' < m ∧ I m' e' v) Rt N (fun e' v => ∃ m', m' < m ∧ I m' e' v) E) (N e u)) E) : ws (sWhile t b) e s N Rt B C E v := by
  unfold ws sWhile
  have go : ∀ (n m : Nat) e s, m < n → I m e s → wp (whileN t b n e) s (fun fl t => match fl with
      | .nx e' => N e' t
      | .rt d => Rt d t
      | .bk e' => B e' t
      | .ct e' => C e' t
      | .ex c fs _ => E c fs t) NX := by
    intro n
    induction n with
    | zero => intro m e s h; omega
    | succ n ih =>
      intro m e s h hI
      unfold whileN
      rw [wp_lft]
      refine wp_mono (turn m e s hI) (fun c u q => ?_) fun _ _ _ z => z
      cases c with
      | false => rw [sel_false] at q; exact q
      | true =>
        rw [sel_true] at q
        simp only [if_true]
        rw [wp_bnd]
        unfold ws at q
        refine wp_mono q (fun fl v q => ?_) fun _ _ _ z => z
        cases fl with
        | nx e2 =>
          obtain ⟨m', h1, h2⟩ := q
          exact ih m' e2 v (by omega) h2
        | ct e2 =>
          obtain ⟨m', h1, h2⟩ := q
          exact ih m' e2 v (by omega) h2
        | bk e2 => exact q
        | rt d => exact q
        | ex c fs e2 => exact q
  exact go turnsMost m e s hm h0
theorem ws_while {t : CT} {b : CS} {e : En} {σ : Type} (L : σ → List (Option D)) (I : σ → Sto → Prop) (μ : σ → Nat) (a0 : σ) (hm : μ a0 < 100000) (h0 : Sl e (L a0)) (h1 : I a0 s)
    (turn : ∀ a f s, I a s → onE (fill (L a) f 0) fun e0 => wp (t e0) s (fun c u => sel c (ws b e0 u (fun e' v => dn (∃ a', μ a' < μ a ∧ Sl e' (L a') ∧ I a' v)) Rt N (fun e' v => dn (∃ a', μ a' < μ a ∧ Sl e' (L a') ∧ I a' v)) E) (N e0 u)) E) : ws (sWhile t b) e s N Rt B C E v := by
  refine ws_while0 (fun m e s => ∃ a, μ a = m ∧ Sl e (L a) ∧ I a s) (μ a0) ⟨a0, rfl, h0, h1⟩ hm ?_
  rintro m e s ⟨a, rfl, h, k⟩
  obtain ⟨f, rfl⟩ := Sl_fill 0 h
  refine wp_mono (turn a f s k) (fun c u q => ?_) fun _ _ _ z => z
  cases c with
  | false => rw [sel_false] at q ⊢; exact q
  | true =>
    rw [sel_true] at q ⊢
    unfold ws at q ⊢
    refine wp_mono q (fun fl v q => ?_) fun _ _ _ z => z
    cases fl with
    | nx e2 => obtain ⟨a', q1, q2⟩ := q; exact ⟨_, q1, a', rfl, q2⟩
    | ct e2 => obtain ⟨a', q1, q2⟩ := q; exact ⟨_, q1, a', rfl, q2⟩
    | bk e2 => exact q
    | rt d => exact q
    | ex c fs e2 => exact q
@[simp] theorem eqD_ii {i j : Int} : eqD (.int i) (.int j) = decide (i = j) := by
  show (i == j) = _
  by_cases h : i = j <;> simp [h]
@[simp] theorem eqD_ss {i j : Str} : eqD (.str i) (.str j) = decide (i = j) := by
  show (i == j) = _
  by_cases h : i = j <;> simp [h]
@[simp] theorem eqD_si {i : Str} {j : Int} : eqD (.str i) (.int j) = false := rfl
@[simp] theorem eqD_is {i : Int} {j : Str} : eqD (.int i) (.str j) = false := rfl
@[simp] theorem eqD_ni {j : Int} : eqD .non (.int j) = false := rfl
@[simp] theorem eqD_in {j : Int} : eqD (.int j) .non = false := rfl
@[simp] theorem eqD_ns {j : Str} : eqD .non (.str j) = false := rfl
@[simp] theorem eqD_sn {j : Str} : eqD (.str j) .non = false := rfl
@[simp] theorem inD_nil {x : D} : inD x [] = false := rfl
@[simp] theorem inD_cons {x y : D} {ys : List D} : inD x (y :: ys) = (eqD y x || inD x ys) := rfl
/-! ### comprehensions -/
/-- what is left of a comprehension whose source is known -/
def wlc (w : Src) (tg : Tg) (t : CT) (c : CE) (e : En) (s : Sto) (Q : List D → Sto → Prop) (_ : Lk1 Q := .u) : Prop := ∃ (all : List D) (I : Nat → List D → Sto → Prop), w.items s = some all ∧ all.length ≤ big ∧ I 0 [] s ∧ (∀ i ys t, I i ys t → w.items t = some all) ∧
    (∀ i x ys t1, all[i]? = some x → I i ys t1 → withT tg x e fun e' => wp (t e') t1 (fun b u => sel b (wp (c e') u (fun y v => I (i + 1) (ys ++ [y]) v) NX) (I (i + 1) ys u)) NX) ∧ ∀ ys t, I all.length ys t → Q ys t
theorem lcL_inv {src : Src} {all : List D} {tg : Tg} {t : CT} {c : CE} {e : En} {Q : List D → Sto → Prop} {E : XP} (I : Nat → List D → Sto → Prop) (hi : ∀ i ys t, I i ys t → src.items t = some all)
    (turn : ∀ i x ys t1, all[i]? = some x → I i ys t1 → withT tg x e fun e' => wp (t e') t1 (fun b u => sel b (wp (c e') u (fun y v => I (i + 1) (ys ++ [y]) v) NX) (I (i + 1) ys u)) NX) (done : ∀ ys t, I all.length ys t → Q ys t) :
    ∀ (r : List D) (i : Nat) (ys : List D) (t1 : Sto), all.drop i = r → i ≤ all.length → I i ys t1 → wp (lcL src all tg t c e r) t1 (fun zs u => Q (ys ++ zs) u) E := by
  intro r
  induction r with
  | nil =>
    intro i ys t1 hr hl h
    have : i = all.length := by
      have := congrArg List.length hr
      simp at this
      omega
    subst this
    unfold wp lcL
    rw [if_pos (hi _ ys t1 h)]
    show Q (ys ++ []) t1
    rw [List.append_nil]
    exact done ys t1 h
  | cons x r ih =>
    intro i ys t1 hr hl h
    have hlt : i < all.length := by
      have := congrArg List.length hr
      simp at this
      omega
    have hx : all[i]? = some x := by
      rw [List.drop_eq_getElem_cons hlt] at hr
      rw [List.getElem?_eq_getElem hlt]
      exact congrArg some (List.cons.inj hr).1
    have hr' : all.drop (i + 1) = r := by
      rw [List.drop_eq_getElem_cons hlt] at hr
      exact (List.cons.inj hr).2
    have k := turn i x ys t1 hx h
    unfold withT at k
    cases eb : bindT tg x e with
    | none => rw [eb] at k; exact k.elim
    | some e' =>
    rw [eb] at k
    have e1 : ∀ P E, wp (lcL src all tg t c e (x :: r)) t1 P E = wp (bnd (pur (t e')) (fun b => if b = true then bnd (pur (c e')) (fun y => bnd (lcL src all tg t c e r) fun ys => ret (y :: ys)) else lcL src all tg t c e r)) t1 P E := by
      intro P E
      unfold wp
      conv => lhs; unfold lcL
      rw [if_pos (hi i ys t1 h)]
      simp only [eb]
      all_goals rfl
    rw [e1, wp_bnd, wp_pur]
    refine wp_mono k (fun b u q => ?_) fun _ _ _ z => z.elim
    rw [wp_sel]
    cases b with
    | false =>
      rw [sel_false] at q ⊢
      exact ih (i + 1) ys u hr' hlt q
    | true =>
      rw [sel_true] at q ⊢
      rw [wp_bnd, wp_pur]
      refine wp_mono q (fun y v q => ?_) fun _ _ _ z => z.elim
      rw [wp_bnd]
      have q2 := ih (i + 1) (ys ++ [y]) v hr' hlt q
      refine wp_mono q2 (fun zs w q => ?_) fun _ _ _ z => z
      show Q (ys ++ (y :: zs)) w
      rw [← List.singleton_append, ← List.append_assoc]
      exact q
theorem r_lc {src : CS'} {tg : Tg} {vs : List Nat} {t : CT} {c : CE} {e : En} {Q : List D → Sto → Prop} {E : XP} {u : Lk2 Q E} (h : wp (src e) s (fun w t1 => wlc w tg t c (wipeE e vs) t1 Q) E) : wp (cLcA src tg vs t c e) s Q E u := by
  unfold cLcA
  rw [wp_bnd]
  refine wp_mono h (fun w t1 ⟨all, I, h1, hb, h2, h3, h4, h5⟩ => ?_) fun _ _ _ z => z
  have q := lcL_inv (E := E) I h3 h4 h5 all 0 [] t1 rfl (Nat.zero_le _) h2
  unfold wp at q ⊢
  simp only [h1, if_pos hb]
  simp only [List.nil_append] at q
  exact q
/-- over any known row -/
theorem wlc_i {w : Src} {tg : Tg} {t : CT} {c : CE} {e : En} {s : Sto} {Q : List D → Sto → Prop} {u : Lk1 Q} (all : List D) (I : Nat → List D → Sto → Prop) (hw : w.items s = some all) (hl : all.length ≤ 1000000) (h0 : I 0 [] s) (hs : ∀ i ys t, I i ys t → w.items t = some all)
    (turn : ∀ i x ys t1, all[i]? = some x → I i ys t1 → withT tg x e fun e' => wp (t e') t1 (fun b u => sel b (wp (c e') u (fun y v => dn (I (i + 1) (ys ++ [y]) v)) NX) (dn (I (i + 1) ys u))) NX) (done : ∀ ys t, I all.length ys t → Q ys t) : wlc w tg t c e s Q u := ⟨all, I, hw, hl, h0, hs, turn, done⟩
theorem wlc_r {lo : Int} {n : Nat} {tg : Tg} {t : CT} {c : CE} {e : En} {s : Sto} {Q : List D → Sto → Prop} {u : Lk1 Q} (I : Nat → List D → Sto → Prop) (hl : n ≤ 1000000) (h0 : I 0 [] s)
    (turn : ∀ i ys t1, i < n → I i ys t1 → withT tg (.int (lo + i)) e fun e' => wp (t e') t1 (fun b u => sel b (wp (c e') u (fun y v => dn (I (i + 1) (ys ++ [y]) v)) NX) (dn (I (i + 1) ys u))) NX) (done : ∀ ys t, I n ys t → Q ys t) : wlc (.rng lo n) tg t c e s Q u := by
  refine wlc_i (rngD lo n) I rfl (by rw [rngD_len]; exact hl) h0 (fun _ _ _ _ => rfl) (fun i x ys t1 hx h => ?_) (fun ys t h => ?_)
  · obtain ⟨hi, rfl⟩ := rngD_get hx
    exact turn i ys t1 hi h
  · rw [rngD_len] at h
    exact done ys t h
@[simp ↓] theorem wp_yes {e : En} {P : Bool → Sto → Prop} {E : XP} {u : Lk2 P E} : wp (tYesD e) s P E u = P true s := propext Iff.rfl
/-! ### a for that is gone through item by item -/
def wforL (tg : Tg) (b : CS) (N : En → Sto → Prop) (Rt : D → Sto → Prop) (E : XP) : List D → En → Sto → Prop
  | [], e, s => N e s
  | x :: r, e, s => withT tg x e fun e' => ws b e' s (fun e2 u => wforL tg b N Rt E r e2 u) Rt N (fun e2 u => wforL tg b N Rt E r e2 u) E
/-- the same, what comes behind locked -/
def wforK (xs : List D) (tg : Tg) (b : CS) (e : En) (s : Sto) (N : En → Sto → Prop) (Rt : D → Sto → Prop) (E : XP) (_ : Lk5 N Rt N N E := .u) : Prop := wforL tg b N Rt E xs e s
@[simp ↓] theorem wforK_nil {tg : Tg} {b : CS} {e : En} {s : Sto} {v : Lk5 N Rt N N E} : wforK [] tg b e s N Rt E v = N e s := propext Iff.rfl
@[simp ↓] theorem wforK_cons {x : D} {r : List D} {tg : Tg} {b : CS} {e : En} {s : Sto} {v : Lk5 N Rt N N E} : wforK (x :: r) tg b e s N Rt E v = withT tg x e fun e' => ws b e' s (fun e2 u => wforK r tg b e2 u N Rt E) Rt N (fun e2 u => wforK r tg b e2 u N Rt E) E := propext Iff.rfl
theorem wfor_k {w : Src} {tg : Tg} {b : CS} {e : En} {s : Sto} {v : Lk5 N Rt B C E} (all : List D) (hw : ∀ t, w.items t = some all) (h : wforK all tg b e s N Rt E) : wfor w tg b e s N Rt B C E v := by
  refine ⟨all, fun i e t => wforL tg b N Rt E (all.drop i) e t, hw s, h, fun _ _ t _ => hw t, fun i x e t hx k => ?_, fun e t k => ?_⟩
  · have hlt : i < all.length := (List.getElem?_eq_some_iff.mp hx).1
    have e1 : all.drop i = x :: all.drop (i + 1) := by
      rw [List.drop_eq_getElem_cons hlt]
      rw [List.getElem?_eq_getElem hlt] at hx
      cases hx
      rfl
    have k : wforL tg b N Rt E (all.drop i) e t := k
    rw [e1] at k
    exact k
  · have k : wforL tg b N Rt E (all.drop all.length) e t := k
    rw [List.drop_length] at k
    exact k
theorem wfor_t0 {tg : Tg} {b : CS} {e : En} {s : Sto} {v : Lk5 N Rt B C E} (h : N e s) : wfor (.seq (.tup [])) tg b e s N Rt B C E v := wfor_k [] (fun _ => rfl) h
theorem wfor_t1 {x : D} {r : List D} {tg : Tg} {b : CS} {e : En} {s : Sto} {v : Lk5 N Rt B C E} (h : wforK (x :: r) tg b e s N Rt E) : wfor (.seq (.tup (x :: r))) tg b e s N Rt B C E v := wfor_k (x :: r) (fun _ => rfl) h
/-- over a written range -/
theorem wfor_rk {lo : Int} {n : Nat} {tg : Tg} {b : CS} {e : En} {s : Sto} {v : Lk5 N Rt B C E} (h : wforK (rngD lo n) tg b e s N Rt E) : wfor (.rng lo n) tg b e s N Rt B C E v := wfor_k (rngD lo n) (fun _ => rfl) h
/-! ### == of the same data -/
mutual
def okD : D → Bool
  | .non => true
  | .bl _ => true
  | .int _ => true
  | .str x => PyData.strOk x
  | .tup ds => okL ds
  | _ => false
def okL : List D → Bool
  | [] => true
  | d :: ds => okD d && okL ds
end
mutual
def dpD : D → Nat
  | .tup ds => dpL ds + 1
  | _ => 0
def dpL : List D → Nat
  | [] => 0
  | d :: ds => max (dpD d) (dpL ds)
end
mutual
theorem dat_ok : ∀ (n : Nat) (x : D), okD x = true → dpD x < n → ∃ d : PyData, (∀ s, datD s n x = some d) ∧ d.canLay0 = true ∧ d.depth ≤ dpD x
  | 0, _, _, h => absurd h (Nat.not_lt_zero _)
  | n + 1, .non, _, _ => ⟨.none, fun _ => rfl, rfl, Nat.le_refl _⟩
  | n + 1, .bl b, _, _ => ⟨.bool b, fun _ => rfl, rfl, Nat.le_refl _⟩
  | n + 1, .int b, _, _ => ⟨.int b, fun _ => rfl, rfl, Nat.le_refl _⟩
  | n + 1, .str x, h, _ => ⟨.str x, fun _ => rfl, by simpa [okD, PyData.canLay0] using h, Nat.le_refl _⟩
  | n + 1, .tup ds, h, hd => by
    obtain ⟨xs, h1, h2, h3⟩ := datL_ok n ds (by simpa [okD] using h) (by simp [dpD] at hd; omega)
    exact ⟨.tuple xs, fun s => by show (datL (datD s n) ds).map PyData.tuple = _; rw [h1]; rfl, by simpa [PyData.canLay0] using h2, by simp [PyData.depth, dpD]; omega⟩
  | n + 1, .lst ds, h, _ => by simp [okD] at h
  | n + 1, .box ds, h, _ => by simp [okD] at h
theorem datL_ok : ∀ (n : Nat) (xs : List D), okL xs = true → dpL xs < n → ∃ ds : List PyData, (∀ s, datL (datD s n) xs = some ds) ∧ PyData.canLayAll0 ds = true ∧ PyData.depthAll ds ≤ dpL xs
  | n, [], _, _ => ⟨[], fun _ => rfl, rfl, Nat.le_refl _⟩
  | n, x :: xs, h, hd => by
    simp only [okL, Bool.and_eq_true] at h
    simp only [dpL] at hd
    obtain ⟨d, h1, h2, h3⟩ := dat_ok n x h.1 (by omega)
    obtain ⟨ds, k1, k2, k3⟩ := datL_ok n xs h.2 (by omega)
    exact ⟨d :: ds, fun s => by show (match datD s n x, datL (datD s n) xs with | some y, some ys => some (y :: ys) | _, _ => none) = _; rw [h1, k1], by simp [PyData.canLayAll0, h2, k2], by simp [PyData.depthAll, dpL]; omega⟩
end
theorem eqX_data {s : Sto} {x y : D} {d : PyData} (h : datD s 9 x = some d) (h' : datD s 9 y = some d) (h2 : d.canLay0 = true) (h3 : d.depth ≤ 64) : eqX s x y = some true := by
  unfold eqX
  cases e : eqS x y with
  | none =>
    have sh : SeqAt.shaped d = true := by unfold SeqAt.shaped; simp [h2, h3]
    simp only [h, h', sh, and_self, if_true]
    rw [SeqAt.eqv_refl d h2]
  | some b =>
    have : b = true := by
      cases x <;> cases y <;> first | (cases e) | skip
      all_goals first | rfl | exact decide_eq_true rfl | (simp only [eqS] at e; cases e; simp only [datD] at h h'; cases h; cases h'; exact decide_eq_true rfl) | (simp [datD] at h h'; done) | (simp only [datD] at h h'; cases h; cases h'; done) | (simp only [datD] at h h'; cases h; cases h'; exact decide_eq_true rfl)
    rw [this]
theorem eqX_ok0 {s : Sto} {x : D} (h : okD x = true) (hd : dpD x < 9) : eqX s x x = some true := by
  obtain ⟨d, h1, h2, h3⟩ := dat_ok 9 x h hd
  exact eqX_data (h1 s) (h1 s) h2 (by omega)
section
variable {s : Sto} {Q : D → Sto → Prop} {E : XP} {u : Lk2 Q E}
theorem r_eqO {x : D} (h : okD x = true) (hd : dpD x < 9) (k : Q (.bl true) s) : wp (dEq x x) s Q E u := r_eq (eqX_ok0 h hd) k
theorem r_neO {x : D} (h : okD x = true) (hd : dpD x < 9) (k : Q (.bl false) s) : wp (dNe x x) s Q E u := r_ne (eqX_ok0 h hd) k
end
@[simp] theorem io_tup {s : Sto} {ds : List D} : itemsOf s (.tup ds) = some ds := rfl
@[simp] theorem row_tup {s : Sto} {ds : List D} : rowOf s (.tup ds) = some ds := rfl
@[simp] theorem row_lst {s : Sto} {ds : List D} : rowOf s (.lst ds) = some ds := rfl
@[simp] theorem row_box {s : Sto} {j : Nat} : rowOf s (.box j) = lAt s j := rfl
@[simp] theorem io_lst {s : Sto} {ds : List D} : itemsOf s (.lst ds) = some ds := rfl
/-! ### tables of the module, index, zip -/
def atT (o : Option D) (k : D → Prop) (_ : Lk1 k := .u) : Prop := match o with
  | some d => k d
  | none => False
theorem atT_i {o : Option D} {d : D} {k : D → Prop} {u : Lk1 k} (h : o = some d) (q : k d) : atT o k u := by subst h; exact q
@[simp] theorem atT_some {d : D} {k : D → Prop} {u : Lk1 k} : atT (some d) k u = k d := propext Iff.rfl
@[simp] theorem tabV_nil {z : Str} : tabV [] z = none := rfl
@[simp] theorem tabV_cons {x z : Str} {d : D} {t : List (Str × D)} : tabV ((x, d) :: t) z = if x = z then some d else tabV t z := by
  unfold tabV
  by_cases c : x = z
  · rw [List.find?_cons_of_pos (by simp [c]), if_pos c]; rfl
  · rw [List.find?_cons_of_neg (by simp [c]), if_neg c]
section
variable {s : Sto} {Q : D → Sto → Prop} {E : XP} {u : Lk2 Q E}
@[simp ↓] theorem wp_tabIx {tbl : List (Str × D)} {z : Str} : wp (tabIx tbl (.str z)) s Q E u = atT (tabV tbl z) fun d => Q d s := by
  show wp (match tabV tbl z with | some d => ret d | none => noC) s Q E = _
  cases tabV tbl z <;> exact propext Iff.rfl
@[simp ↓] theorem wp_tabGet {tbl : List (Str × D)} {z : Str} {d : D} : wp (tabGet tbl (.str z) d) s Q E u = Q ((tabV tbl z).getD d) s := propext Iff.rfl
@[simp ↓] theorem wp_tupIx {ys : List Str} {z : Str} : wp (tupIx ys (.str z)) s Q E u = atT ((ys.findIdx? fun y => decide (y = z)).map fun k => D.int k) fun d => Q d s := by
  show wp (match ys.findIdx? fun y => decide (y = z) with | some k => ret (.int k) | none => noC) s Q E = _
  cases ys.findIdx? fun y => decide (y = z) <;> exact propext Iff.rfl
theorem r_index {j k : Nat} {xs : List D} {y : D} (h : At s j (.lst xs)) (c : flatD y = true ∧ xs.all flatD = true) (e : placeOf y xs = some k) (q : Q (.int k) s) : wp (dIndexL (.box j) [y]) s Q E u := by
  unfold wp dIndexL
  simp only [lAt_at h]
  rw [if_pos c]
  simp only [e]
  exact q
end
@[simp ↓] theorem wp_iZip {a b : CE} {e : En} {s : Sto} {E : XP} {P : Src → Sto → Prop} {u : Lk2 P E} : wp (iZip a b e) s P E u = wp (a e) s (fun c t => wp (b e) t (fun d v => gd ((∃ xs, rowOf v c = some xs) ∧ ∃ ys, rowOf v d = some ys) (P (.zip c d) v)) E) E := by
  unfold iZip
  rw [wp_bnd]
  refine wp_congr fun c t => ?_
  rw [wp_bnd]
  refine wp_congr fun d v => ?_
  unfold wp gd
  dsimp only
  cases q : rowOf v c with
  | none => exact propext ⟨fun z => False.elim z, fun ⟨⟨⟨_, z⟩, _⟩, _⟩ => nomatch z⟩
  | some xs =>
    cases q2 : rowOf v d with
    | none => exact propext ⟨fun z => False.elim z, fun ⟨⟨_, ⟨_, z⟩⟩, _⟩ => nomatch z⟩
    | some ys => exact propext ⟨fun z => ⟨⟨⟨xs, rfl⟩, ys, rfl⟩, z⟩, fun z => z.2⟩
/-- a new list of what a comprehension gives -/
theorem r_lcN {src : CS'} {tg : Tg} {vs : List Nat} {t : CT} {c : CE} {e : En} {s : Sto} {Q : D → Sto → Prop} {E : XP} {u : Lk2 Q E} (h : wp (src e) s (fun w t1 => wlc w tg t c (wipeE e vs) t1 (fun xs t2 => wp (alloc (.lst xs)) t2 Q E)) E) : wp (cLc src tg vs t c e) s Q E u := by
  show wp (cNew (cLcA src tg vs t c) e) s Q E
  rw [wp_cNew]
  exact r_lc h
/-! ### dicts -/
def onK (x : D) (k : Key → Prop) (_ : Lk1 k := .u) : Prop := match keyOf x with
  | some q => k q
  | none => False
@[simp ↓] theorem onK_int {i : Int} {k : Key → Prop} {u : Lk1 k} : onK (.int i) k u = k (.inl i) := propext Iff.rfl
@[simp ↓] theorem onK_str {i : Str} {k : Key → Prop} {u : Lk1 k} : onK (.str i) k u = k (.inr i) := propext Iff.rfl
@[simp ↓] theorem wp_pNil {e : En} {s : Sto} {E : XP} {P : List (Key × D) → Sto → Prop} {u : Lk2 P E} : wp (pNil e) s P E u = P [] s := propext Iff.rfl
@[simp ↓] theorem wp_pCons {k v : CE} {r : CP} {e : En} {s : Sto} {E : XP} {P : List (Key × D) → Sto → Prop} {u : Lk2 P E} : wp (pCons k v r e) s P E u = wp (k e) s (fun x t => wp (v e) t (fun y t2 => wp (r e) t2 (fun ps t3 => onK x fun q => P ((q, y) :: ps) t3) E) E) E := by
  unfold pCons
  rw [wp_bnd]
  refine wp_congr fun x t => ?_
  rw [wp_bnd]
  refine wp_congr fun y t2 => ?_
  rw [wp_bnd]
  refine wp_congr fun ps t3 => ?_
  unfold onK
  cases keyOf x <;> exact propext Iff.rfl
@[simp ↓] theorem wp_cDisp {a : CP} {e : En} {s : Sto} {E : XP} {Q : D → Sto → Prop} {u : Lk2 Q E} : wp (cDisp a e) s Q E u = wp (alloc (.dk [])) s (fun b t => wp (a e) t (fun ps v => wp (endDisp b ps) v Q E) E) E := by
  unfold cDisp
  rw [wp_bnd]
  refine wp_congr fun b t => ?_
  rw [wp_bnd]
theorem dkAt_at {s : Sto} {j : Nat} {kvs : List (Key × D)} (h : At s j (.dk kvs)) : dkAt s (.box j) = some kvs := by
  have h : s[j]? = some (.dk kvs) := h
  unfold dkAt
  simp only [h]
section
variable {s : Sto} {Q : D → Sto → Prop} {E : XP} {u : Lk2 Q E}
theorem r_disp {j : Nat} {ps : List (Key × D)} (h : At s j (.dk [])) (hl : ps.length ≤ 15) (k : ∀ t, At t j (.dk (mergeD [] ps)) → Fr [j] s t → Q (.box j) t) : wp (endDisp (.box j) ps) s Q E u := by
  have h' : s[j]? = some (.dk []) := h
  unfold wp endDisp
  simp only [h']
  rw [if_pos hl]
  exact k _ (at_set h) fr_set
theorem r_ix2 {j : Nat} {kvs : List (Key × D)} {y d : D} {k : Key} (h : At s j (.dk kvs)) (ky : keyOf y = some k) (v : valD kvs k = some d) (q : Q d s) : wp (dIx2 (.box j) y) s Q E u := by
  unfold wp dIx2
  simp only [dkAt_at h, ky, v]
  exact q
end
theorem turns_eq : turnsMost = 100000 := rfl
/-! ### unpacking, objects -/
def onIt (s : Sto) (d : D) (k : List D → Prop) (_ : Lk1 k := .u) : Prop := match itemsOf s d with
  | some ds => k ds
  | none => False
@[simp ↓] theorem onIt_tup {s : Sto} {ds : List D} {k : List D → Prop} {u : Lk1 k} : onIt s (.tup ds) k u = k ds := propext Iff.rfl
@[simp ↓] theorem onIt_lst {s : Sto} {ds : List D} {k : List D → Prop} {u : Lk1 k} : onIt s (.lst ds) k u = k ds := propext Iff.rfl
theorem onIt_i {s : Sto} {j : Nat} {ds : List D} {k : List D → Prop} {u : Lk1 k} (h : At s j (.lst ds)) (q : k ds) : onIt s (.box j) k u := by
  unfold onIt
  simp only [itemsOf, lAt_at h]
  exact q
@[simp] theorem lkF_nil {f : Str} : lkF [] f = none := rfl
@[simp] theorem lkF_cons {g f : Str} {d : D} {r : List (Str × D)} : lkF ((g, d) :: r) f = if g = f then some d else lkF r f := rfl
@[simp] theorem putFD_nil {f : Str} {d : D} : putFD f d [] = [(f, d)] := rfl
@[simp] theorem putFD_cons {g f : Str} {x d : D} {r : List (Str × D)} : putFD f d ((g, x) :: r) = if g = f then (g, d) :: r else (g, x) :: putFD f d r := rfl
theorem objAt_at {s : Sto} {j : Nat} {c : Str} {fs : List (Str × D)} (h : At s j (.ins c fs)) : objAt c s (.box j) = some fs := by
  have h : s[j]? = some (.ins c fs) := h
  unfold objAt
  simp only [h, if_pos]
theorem dkWr_at {s : Sto} {j : Nat} {kvs : List (Key × D)} (h : At s j (.dk kvs)) : dkWr s (.box j) = some kvs := by
  have h : s[j]? = some (.dk kvs) := h
  unfold dkWr
  simp only [h]
theorem dkAt_fd {s : Sto} {j : Nat} {kvs : List (Key × D)} (h : At s j (.fd kvs)) : dkAt s (.box j) = some kvs := by
  have h : s[j]? = some (.fd kvs) := h
  unfold dkAt
  simp only [h]
theorem dkAt_l {s : Sto} {j : Nat} {xs : List D} (h : At s j (.lst xs)) : dkAt s (.box j) = none := by
  have h : s[j]? = some (.lst xs) := h
  unfold dkAt
  simp only [h]
theorem dkWr_l {s : Sto} {j : Nat} {xs : List D} (h : At s j (.lst xs)) : dkWr s (.box j) = none := by
  have h : s[j]? = some (.lst xs) := h
  unfold dkWr
  simp only [h]
section
variable {e : En} {s : Sto} {Q : D → Sto → Prop} {E : XP} {u : Lk2 Q E} {N B C : En → Sto → Prop} {Rt : D → Sto → Prop} {v : Lk5 N Rt B C E}
@[simp ↓] theorem ws_unp2 {is : List Nat} {c : CE} : ws (sUnp2 is c) e s N Rt B C E v = wp (c e) s (fun d t => onIt t d fun ds => stw e is ds fun e' => N e' t) E := by
  unfold ws sUnp2
  rw [wp_lft]
  exact wp_congr fun d t => by
    unfold onIt stw wp
    dsimp only
    cases itemsOf t d with
    | none => rfl
    | some ds =>
      dsimp only
      cases stAll e is ds <;> rfl
@[simp ↓] theorem ws_sFld {c f : Str} {o w : CE} : ws (sFld c f o w) e s N Rt B C E v = wp (w e) s (fun z t => wp (o e) t (fun x u => wp (dSetF c f x z) u (fun _ r => N e r) E) E) E := by
  unfold ws sFld
  rw [wp_lft]
  refine wp_congr fun y t => ?_
  rw [wp_lft]
  refine wp_congr fun y t => ?_
  rw [wp_lft]
  rfl
@[simp ↓] theorem wp_cMth {c m : Str} {g : List D → Cm D} {o : CE} {a : CA} : wp (cMth c m g o a e) s Q E u = wp (o e) s (fun x t => wp (chkO c m x) t (fun _ u => wp (a e) u (fun xs v => wp (g (x :: xs)) v Q NX) E) E) E := by
  unfold cMth
  rw [wp_bnd]
  refine wp_congr fun _ _ => ?_
  rw [wp_bnd]
  refine wp_congr fun _ _ => ?_
  rw [wp_bnd]
  refine wp_congr fun _ _ => ?_
  rw [wp_pur]
@[simp ↓] theorem wp_cMake {c : Str} {g : List D → Cm D} {a : CA} : wp (cMake c g a e) s Q E u = wp (a e) s (fun xs t => wp (alloc (.ins c [])) t (fun b u => wp (g (b :: xs)) u (fun r v => wp (retB b r) v Q E) NX) E) E := by
  unfold cMake
  rw [wp_bnd]
  refine wp_congr fun _ _ => ?_
  rw [wp_bnd]
  refine wp_congr fun _ _ => ?_
  rw [wp_bnd, wp_pur]
@[simp ↓] theorem wp_retB {b : D} : wp (retB b .non) s Q E u = Q b s := propext Iff.rfl
theorem r_fld {j : Nat} {c f : Str} {fs : List (Str × D)} (h : At s j (.ins c fs)) (k : atT (lkF fs f) fun d => Q d s) : wp (dFld c f (.box j)) s Q E u := by
  unfold wp dFld
  simp only [objAt_at h]
  unfold atT at k
  cases q : lkF fs f with
  | none => rw [q] at k; exact k
  | some d => rw [q] at k; exact k
theorem r_setF {j : Nat} {c f : Str} {fs : List (Str × D)} {d : D} {P : Unit → Sto → Prop} {u : Lk2 P E} (h : At s j (.ins c fs)) (hl : fs.length < 1000) (k : ∀ t, At t j (.ins c (putFD f d fs)) → Fr [j] s t → P () t) : wp (dSetF c f (.box j) d) s P E u := by
  unfold wp dSetF
  simp only [objAt_at h]
  rw [if_pos hl]
  exact k _ (at_set h) fr_set
theorem r_chkO {j : Nat} {c m : Str} {fs : List (Str × D)} {P : Unit → Sto → Prop} {u : Lk2 P E} (h : At s j (.ins c fs)) (hm : lkF fs m = none) (k : P () s) : wp (chkO c m (.box j)) s P E u := by
  unfold wp chkO
  simp only [objAt_at h]
  rw [if_pos hm]
  exact k
/-! ### more of dicts -/
@[simp ↓] theorem wp_cNewD : wp (cNewD e) s Q E u = wp (alloc (.dk [])) s Q E := propext Iff.rfl
theorem r_dict {j : Nat} {kvs : List (Key × D)} (h : At s j (.dk kvs)) (k : wp (alloc (.dk kvs)) s Q E) : wp (bDict [.box j]) s Q E u := by
  unfold wp bDict
  simp only [dkAt_at h]
  exact k
@[simp ↓] theorem wp_cUpd {o k : CE} : wp (cUpd o k e) s Q E u = wp (o e) s (fun x t => wp (chkD x) t (fun _ u => wp (k e) u (fun y v => wp (dUpd x y) v Q E) E) E) E := by
  unfold cUpd
  rw [wp_bnd]
  refine wp_congr fun _ _ => ?_
  rw [wp_bnd]
  refine wp_congr fun _ _ => ?_
  rw [wp_bnd]
@[simp ↓] theorem wp_cGetD {o k d : CE} : wp (cGetD o k d e) s Q E u = wp (o e) s (fun x t => wp (chkD x) t (fun _ u => wp (k e) u (fun y v => wp (d e) v (fun z w => wp (dGetD x y z) w Q E) E) E) E) E := by
  unfold cGetD
  rw [wp_bnd]
  refine wp_congr fun _ _ => ?_
  rw [wp_bnd]
  refine wp_congr fun _ _ => ?_
  rw [wp_bnd]
  refine wp_congr fun _ _ => ?_
  rw [wp_bnd]
theorem r_chkD {j : Nat} {kvs : List (Key × D)} {P : Unit → Sto → Prop} {u : Lk2 P E} (h : At s j (.dk kvs)) (k : P () s) : wp (chkD (.box j)) s P E u := by
  unfold wp chkD
  simp only [dkAt_at h]
  exact k
theorem r_upd {i j : Nat} {kvs more : List (Key × D)} (h : At s i (.dk kvs)) (h' : At s j (.dk more)) (c : i ≠ j ∧ kvs.length + more.length ≤ big) (k : ∀ t, At t i (.dk (mergeD kvs more)) → Fr [i] s t → Q .non t) : wp (dUpd (.box i) (.box j)) s Q E u := by
  unfold wp dUpd
  simp only [dkWr_at h, dkAt_at h']
  rw [if_pos c]
  exact k _ (at_set h) fr_set
theorem r_getD {j : Nat} {kvs : List (Key × D)} {y z : D} {k : Key} (h : At s j (.dk kvs)) (ky : keyOf y = some k) (q : Q ((valD kvs k).getD z) s) : wp (dGetD (.box j) y z) s Q E u := by
  unfold wp dGetD
  simp only [dkAt_at h, ky]
  exact q
theorem r_put2D {j : Nat} {kvs : List (Key × D)} {y z : D} {k : Key} {P : Unit → Sto → Prop} {u : Lk2 P E} (h : At s j (.dk kvs)) (ky : keyOf y = some k) (hl : kvs.length < big) (q : ∀ t, At t j (.dk (putD kvs k z)) → Fr [j] s t → P () t) : wp (dPut2 (.box j) y z) s P E u := by
  unfold wp dPut2
  simp only [dkWr_at h, ky]
  rw [if_pos hl]
  exact q _ (at_set h) fr_set
theorem r_put2L {j : Nat} {xs : List D} {i : Int} {z : D} {P : Unit → Sto → Prop} {u : Lk2 P E} (h : At s j (.lst xs)) (h0 : 0 ≤ i) (h1 : i < xs.length) (k : ∀ t, At t j (.lst (xs.set i.toNat z)) → Fr [j] s t → P () t) : wp (dPut2 (.box j) (.int i) z) s P E u := by
  have q := r_putT (v := z) (u := .u) (E := E) h h0 h1 k
  unfold wp dPut2
  simp only [dkWr_l h]
  exact q
theorem r_ix2L {j : Nat} {xs : List D} {i : Int} (h : At s j (.lst xs)) (k : atK xs i fun v => Q v s) : wp (dIx2 (.box j) (.int i)) s Q E u := by
  have q := r_ix (u := .u) (E := E) h k
  unfold wp dIx2
  simp only [dkAt_l h]
  exact q
theorem r_ix2F {j : Nat} {kvs : List (Key × D)} {y d : D} {k : Key} (h : At s j (.fd kvs)) (ky : keyOf y = some k) (v : valD kvs k = some d) (q : Q d s) : wp (dIx2 (.box j) y) s Q E u := by
  unfold wp dIx2
  simp only [dkAt_fd h, ky, v]
  exact q
@[simp ↓] theorem wp_ix2T {xs : List D} {y : D} : wp (dIx2 (.tup xs) y) s Q E u = wp (dIx (.tup xs) y) s Q E := propext Iff.rfl
@[simp ↓] theorem wp_ix2M {xs : List D} {y : D} : wp (dIx2 (.lst xs) y) s Q E u = wp (dIx (.lst xs) y) s Q E := propext Iff.rfl
@[simp ↓] theorem wp_ix2S {x : Str} {y : D} : wp (dIx2 (.str x) y) s Q E u = wp (dIx (.str x) y) s Q E := propext Iff.rfl
@[simp ↓] theorem wp_in2T {neg : Bool} {xs : List D} {x : D} : wp (dIn2 neg x (.tup xs)) s Q E u = wp (dIn neg x (.tup xs)) s Q E := propext Iff.rfl
@[simp ↓] theorem wp_in2M {neg : Bool} {xs : List D} {x : D} : wp (dIn2 neg x (.lst xs)) s Q E u = wp (dIn neg x (.lst xs)) s Q E := propext Iff.rfl
theorem r_in2L {neg : Bool} {x : D} {j : Nat} {ys : List D} (h : At s j (.lst ys)) (c : flatD x = true ∧ ys.all flatD = true) (k : Q (.bl (if neg then !inD x ys else inD x ys)) s) : wp (dIn2 neg x (.box j)) s Q E u := by
  have q := r_inL (u := .u) (E := E) h c k
  unfold wp dIn2
  simp only [dkAt_l h]
  exact q
theorem r_in2D {neg : Bool} {x : D} {j : Nat} {kvs : List (Key × D)} {k : Key} (h : At s j (.dk kvs)) (ky : keyOf x = some k) (q : Q (.bl (if neg then !(valD kvs k).isSome else (valD kvs k).isSome)) s) : wp (dIn2 neg x (.box j)) s Q E u := by
  unfold wp dIn2
  simp only [dkAt_at h, ky]
  exact q
@[simp ↓] theorem wp_eq2i {i : Int} {y : D} : wp (dEq2 (.int i) y) s Q E u = wp (dEq (.int i) y) s Q E := propext Iff.rfl
@[simp ↓] theorem wp_eq2b {i : Bool} {y : D} : wp (dEq2 (.bl i) y) s Q E u = wp (dEq (.bl i) y) s Q E := propext Iff.rfl
@[simp ↓] theorem wp_eq2s {i : Str} {y : D} : wp (dEq2 (.str i) y) s Q E u = wp (dEq (.str i) y) s Q E := propext Iff.rfl
@[simp ↓] theorem wp_eq2t {i : List D} {y : D} : wp (dEq2 (.tup i) y) s Q E u = wp (dEq (.tup i) y) s Q E := propext Iff.rfl
@[simp ↓] theorem wp_eq2n {y : D} : wp (dEq2 .non y) s Q E u = wp (dEq .non y) s Q E := propext Iff.rfl
@[simp ↓] theorem wp_eq2l {i : List D} {y : D} : wp (dEq2 (.lst i) y) s Q E u = wp (dEq (.lst i) y) s Q E := propext Iff.rfl
@[simp ↓] theorem wp_ne2i {i : Int} {y : D} : wp (dNe2 (.int i) y) s Q E u = wp (dNe (.int i) y) s Q E := propext Iff.rfl
@[simp ↓] theorem wp_ne2b {i : Bool} {y : D} : wp (dNe2 (.bl i) y) s Q E u = wp (dNe (.bl i) y) s Q E := propext Iff.rfl
@[simp ↓] theorem wp_ne2s {i : Str} {y : D} : wp (dNe2 (.str i) y) s Q E u = wp (dNe (.str i) y) s Q E := propext Iff.rfl
@[simp ↓] theorem wp_ne2t {i : List D} {y : D} : wp (dNe2 (.tup i) y) s Q E u = wp (dNe (.tup i) y) s Q E := propext Iff.rfl
@[simp ↓] theorem wp_ne2n {y : D} : wp (dNe2 .non y) s Q E u = wp (dNe .non y) s Q E := propext Iff.rfl
@[simp ↓] theorem wp_ne2l {i : List D} {y : D} : wp (dNe2 (.lst i) y) s Q E u = wp (dNe (.lst i) y) s Q E := propext Iff.rfl
theorem r_eq2L {i : Nat} {xs : List D} {y : D} (h : At s i (.lst xs)) (k : wp (dEq (.box i) y) s Q E) : wp (dEq2 (.box i) y) s Q E u := by
  unfold wp dEq2
  simp only [dkWr_l h]
  exact k
theorem r_ne2L {i : Nat} {xs : List D} {y : D} (h : At s i (.lst xs)) (k : wp (dNe (.box i) y) s Q E) : wp (dNe2 (.box i) y) s Q E u := by
  unfold wp dNe2
  simp only [dkWr_l h]
  exact k
theorem r_eq2D {i j : Nat} {ks ls : List (Key × D)} (h : At s i (.dk ks)) (h' : At s j (.dk ls)) (c : alikeD ks ls = true) (k : Q (.bl true) s) : wp (dEq2 (.box i) (.box j)) s Q E u := by
  unfold wp dEq2
  simp only [dkWr_at h, dkWr_at h']
  rw [if_pos c]
  exact k
theorem r_ne2D {i j : Nat} {ks ls : List (Key × D)} (h : At s i (.dk ks)) (h' : At s j (.dk ls)) (c : alikeD ks ls = true) (k : Q (.bl false) s) : wp (dNe2 (.box i) (.box j)) s Q E u := by
  unfold wp dNe2
  simp only [dkWr_at h, dkWr_at h']
  rw [if_pos c]
  exact k
theorem ty_dk {j : Nat} {kvs : List (Key × D)} (h : At s j (.dk kvs)) : tyD s (.box j) = some "dict" := by
  have e : s[j]? = some (.dk kvs) := h
  simp only [tyD, e]
theorem r_isiDD {j : Nat} {kvs : List (Key × D)} (h : At s j (.dk kvs)) (k : Q (.bl true) s) : wp (dIsi "dict" (.box j)) s Q E u := by
  rw [wp_dIsi (t := "dict") (b := true) (ty_dk h) (by decide +kernel)]
  exact k
theorem r_isiDT {j : Nat} {kvs : List (Key × D)} (h : At s j (.dk kvs)) (k : Q (.bl false) s) : wp (dIsi "tuple" (.box j)) s Q E u := by
  rw [wp_dIsi (t := "dict") (b := false) (ty_dk h) (by decide +kernel)]
  exact k
theorem r_isiDL {j : Nat} {kvs : List (Key × D)} (h : At s j (.dk kvs)) (k : Q (.bl false) s) : wp (dIsi "list" (.box j)) s Q E u := by
  rw [wp_dIsi (t := "dict") (b := false) (ty_dk h) (by decide +kernel)]
  exact k
theorem fr_set' {j : Nat} {m : MO} {t : Sto} (h : t = s.set j m) : Fr [j] s t := by subst h; exact fr_set
theorem r_lock {i j : Nat} {c : CS} {kvs : List (Key × D)} (hi : sl e i = some (.box j)) (h : At s j (.dk kvs)) (k : ∀ t, At t j (.fd kvs) → Fr [j] s t → ws c e t (fun e' t' => At t' j (.fd kvs) ∧ ∀ u, At u j (.dk kvs) → Fr [j] t' u → N e' u) (fun d t' => At t' j (.fd kvs) ∧ ∀ u, At u j (.dk kvs) → Fr [j] t' u → Rt d u) NE NE NX) : ws (sLock i c) e s N Rt B C E v := by
  have k := k _ (at_set h) fr_set
  have h : s[j]? = some (.dk kvs) := h
  unfold ws wp at k ⊢
  unfold sLock
  simp only [hi, h]
  cases q : c e (s.set j (.fd kvs)) with
  | no => rw [q] at k; exact k
  | ex _ _ _ => rw [q] at k; exact k.elim
  | ok fl t =>
    rw [q] at k
    cases fl with
    | nx e' =>
      obtain ⟨k1, k2⟩ := k
      simp only [if_pos (show t[j]? = some (.fd kvs) ∧ (∀ c fs e2, Fl.nx e' ≠ .ex c fs e2) from ⟨k1, fun _ _ _ z => by cases z⟩)]
      exact k2 _ (at_set k1) fr_set
    | rt d =>
      obtain ⟨k1, k2⟩ := k
      simp only [if_pos (show t[j]? = some (.fd kvs) ∧ (∀ c fs e2, Fl.rt d ≠ .ex c fs e2) from ⟨k1, fun _ _ _ z => by cases z⟩)]
      exact k2 _ (at_set k1) fr_set
    | bk e' => exact k.elim
    | ct e' => exact k.elim
    | ex _ _ _ => exact k.elim
theorem r_lockA {i j : Nat} {c : CA} {kvs : List (Key × D)} {P : List D → Sto → Prop} {u : Lk2 P E} (hi : sl e i = some (.box j)) (h : At s j (.dk kvs)) (k : ∀ t, At t j (.fd kvs) → Fr [j] s t → wp (c e) t (fun ds t' => At t' j (.fd kvs) ∧ ∀ u, At u j (.dk kvs) → Fr [j] t' u → P ds u) NX) : wp (aLock i c e) s P E u := by
  have k := k _ (at_set h) fr_set
  have h : s[j]? = some (.dk kvs) := h
  unfold wp at k ⊢
  unfold aLock
  simp only [hi, h]
  cases q : c e (s.set j (.fd kvs)) with
  | no => rw [q] at k; exact k
  | ex _ _ _ => rw [q] at k; exact k.elim
  | ok ds t =>
    rw [q] at k
    obtain ⟨k1, k2⟩ := k
    simp only [if_pos (show t[j]? = some (.fd kvs) from k1)]
    exact k2 _ (at_set k1) fr_set
theorem r_keysF {i j : Nat} {kvs : List (Key × D)} {P : Src → Sto → Prop} {u : Lk2 P E} (hi : sl e i = some (.box j)) (h : At s j (.fd kvs)) (k : P (.dkeys j) s) : wp (iKeysF i e) s P E u := by
  have h : s[j]? = some (.fd kvs) := h
  unfold wp iKeysF
  simp only [hi, h]
  exact k
theorem items_dk {j : Nat} {kvs : List (Key × D)} (h : At s j (.fd kvs)) : Src.items s (.dkeys j) = some (kvs.map fun (kv : Key × D) => keyD kv.1) := by
  have h : s[j]? = some (.fd kvs) := h
  show (match s[j]? with | some (.fd kvs) => some (kvs.map fun (kv : Key × D) => keyD kv.1) | _ => none) = _
  simp only [h]
end
end
end G

set_option Elab.async false
set_option linter.all false
set_option maxRecDepth 100000
set_option maxHeartbeats 4000000
/-! G: != of rows that hold dicts, where both are alike (data level) -/
namespace G
open PySem L2
mutual
def simD (s : Sto) : Nat → D → D → Bool
  | 0, _, _ => false
  | n + 1, .tup xs, .tup ys => simL (simD s n) xs ys
  | n + 1, .box i, .box j => (match lAt s i, lAt s j with
    | some xs, some ys => simL (simD s n) xs ys
    | _, _ => (match s[i]?, s[j]? with
      | some (.dk ks), some (.dk ls) => alikeD ks ls
      | _, _ => false))
  | _ + 1, x, y => flatD x && decide (eqS y x = some true)
def simL (f : D → D → Bool) : List D → List D → Bool
  | [], [] => true
  | x :: xs, y :: ys => f x y && simL f xs ys
  | _, _ => false
end
def simT (s : Sto) : D → D → Bool
  | .tup xs, .tup ys => simL (simD s 8) xs ys
  | _, _ => false
def dNe3 (x y : D) : Cm D := fun s => if simT s x y = true then .ok (.bl false) s else .no
theorem r_ne3 {s : Sto} {x y : D} {Q : D → Sto → Prop} {E : XP} {u : Lk2 Q E} (h : simT s x y = true) (k : Q (.bl false) s) : wp (dNe3 x y) s Q E u := by
  unfold wp dNe3
  simp only [h, if_true]
  exact k
theorem simL_map {f : D → D → Bool} {g h : Int → D} : ∀ {xs : List Int}, (∀ x ∈ xs, f (g x) (h x) = true) → simL f (xs.map g) (xs.map h) = true
  | [], _ => rfl
  | x :: xs, q => by
    show (f (g x) (h x) && simL f (xs.map g) (xs.map h)) = true
    rw [q x List.mem_cons_self, simL_map fun y hy => q y (List.mem_cons_of_mem _ hy)]
    rfl
theorem sim_int {s : Sto} {n : Nat} {i : Int} : simD s (n + 1) (.int i) (.int i) = true := by simp [simD, flatD, eqS]
theorem sim_str {s : Sto} {n : Nat} {i : Str} : simD s (n + 1) (.str i) (.str i) = true := by simp [simD, flatD, eqS]
theorem sim_tup {s : Sto} {n : Nat} {xs ys : List D} (h : simL (simD s n) xs ys = true) : simD s (n + 1) (.tup xs) (.tup ys) = true := by simp only [simD]; exact h
theorem sim_dk {s : Sto} {n i j : Nat} {ks ls : List (Key × D)} (hi : At s i (.dk ks)) (hj : At s j (.dk ls)) (h : alikeD ks ls = true) : simD s (n + 1) (.box i) (.box j) = true := by
  have e1 : s[i]? = some (.dk ks) := hi
  have e2 : s[j]? = some (.dk ls) := hj
  have l1 : lAt s i = none := by unfold lAt; rw [e1]
  simp only [simD, l1, e1, e2]
  exact h
theorem sim_lst {s : Sto} {n i j : Nat} {xs ys : List D} (hi : At s i (.lst xs)) (hj : At s j (.lst ys)) (h : simL (simD s n) xs ys = true) : simD s (n + 1) (.box i) (.box j) = true := by
  simp only [simD, lAt_at hi, lAt_at hj]
  exact h
/-- d.clear() -/
def dClrD (x : D) : Cm D := fun s => match x with
  | .box j => (match s[j]? with
    | some (.dk _) => .ok .non (s.set j (.dk []))
    | _ => .no)
  | _ => .no
def cClrD (o : CE) : CE := fun e => bnd (o e) dClrD
@[simp ↓] theorem wp_cClrD {o : CE} {e : En} {s : Sto} {Q : D → Sto → Prop} {E : XP} {u : Lk2 Q E} : wp (cClrD o e) s Q E u = wp (o e) s (fun x t => wp (dClrD x) t Q E) E := by
  unfold cClrD
  rw [wp_bnd]
theorem r_clrD {j : Nat} {kvs : List (Key × D)} {s : Sto} {Q : D → Sto → Prop} {E : XP} {u : Lk2 Q E} (h : At s j (.dk kvs)) (k : ∀ t, At t j (.dk []) → Fr [j] s t → Q .non t) : wp (dClrD (.box j)) s Q E u := by
  have e : s[j]? = some (.dk kvs) := h
  unfold wp dClrD
  simp only [e]
  exact k _ (at_set h) fr_set
end G

set_option Elab.async false
set_option linter.all false
set_option maxRecDepth 100000
set_option maxHeartbeats 4000000
/-! G: != of rows that hold dicts, where both are alike (soundness) -/
namespace PySem.SeqAt
open AutoSeq1 (wpAny_loadPart')
open MeetsSeq MeetsSeq2 MeetsSeq3
section
variable {prog : Program} {w : World}
/-- two tuples whose items are alike: != answers False -/
theorem tuple_ne_same (l b : Addr) (items items2 : Array Value) (n n2 : Nat) (dd dd2 : Option Addr) (sl sl2 : Array (Option Value)) (hsz : items.size = items2.size) :
    MeetsIn prog w (Builtin.«tuple.__ne__» ⟨[.ref l, .ref b], []⟩)
      (fun A R s => s.heap.get? l = some { cls := .type "tuple", dict := dd, data := .seq items n, slots := sl } ∧ s.heap.get? b = some { cls := .type "tuple", dict := dd2, data := .seq items2 n2, slots := sl2 } ∧
        (∀ j (h1 : j < items.size) (h2 : j < items2.size), EqIn prog w A.in1 s items[j] items2[j] true) ∧ R (.ok (.ret (.bool false))) s) :=
  .of_wp fun A R s h => by
    obtain ⟨hp, g, d, tk, os⟩ := s; obtain ⟨hl, hb, he, h⟩ := h
    have f2 := AutoSeq1.sub_tuple_tuple
    wp_walk using wpAny_loadPart' hl, wpAny_loadPart' hb, wpAny_forIn_list _ (fun rest b s' => b.1 = none ∧ s' = ⟨hp, g, d, tk, os⟩ ∧ ∃ i, rest = (items.toList.zip items2.toList).drop i) _
    case turn =>
      rintro ⟨y, x⟩ rest b s' ⟨hb', rfl, i, hz⟩
      have hlt : i < (items.toList.zip items2.toList).length := by
        rcases Nat.lt_or_ge i (items.toList.zip items2.toList).length with h' | h'
        · exact h'
        · rw [List.drop_of_length_le h'] at hz; cases hz
      have h1 : i < items.size := by simp at hlt; omega
      have h2 : i < items2.size := by simp at hlt; omega
      rw [List.drop_eq_getElem_cons hlt] at hz
      injection hz with hyx hrest
      have hy : y = items[i] := by have := congrArg Prod.fst hyx; simpa using this
      have hx : x = items2[i] := by have := congrArg Prod.snd hyx; simpa using this
      subst hy hx
      refine wpAny_bind (he i h1 h2 _ _ ?_)
      wp_walk
      exact ⟨rfl, rfl, i + 1, hrest⟩
    case fin =>
      rintro ⟨b1, b2⟩ s' ⟨hb', rfl, i, hz⟩
      simp only at hb'
      subst hb'
      wp_walk
      exact ⟨_, rfl, by simpa [Builtin.Tuple.tupleCompareSizes, bne, hsz] using h⟩
    case h =>
      exact ⟨rfl, rfl, 0, rfl⟩
variable {A : Around} {E : Value → Shared → Prop} {s : Shared}
theorem ne_tuples_same {l b : Addr} {items items2 : Array Value} {Q : Value → Shared → Prop} (hl : s.heap.IsTuple l items) (hb : s.heap.IsTuple b items2) (hsz : items.size = items2.size) (hu : A.units < cLine)
    (he : ∀ j (h1 : j < items.size) (h2 : j < items2.size), EqIn prog w A.in1 s items[j] items2[j] true) (h : Q (.bool false) s) : wpAny (model prog w) A (richCompare .NotEq (.ref l) (.ref b)) Q E s := by
  obtain ⟨⟨cls, dd, data, sl⟩, ho, hc, n, hd⟩ := id hl
  obtain ⟨⟨cls2, dd2, data2, sl2⟩, ho2, hc2, n2, hd2⟩ := id hb
  simp only at hc hd hc2 hd2
  subst hc hd hc2 hd2
  exact wpAny_richCompare_same_room (T := "tuple") (op := .NotEq) ⟨_, ho, rfl⟩ ⟨_, ho2, rfl⟩ F.slot_tuple_ne (call_meetsIn F.slot_tuple_ne ⟨_, ho, rfl⟩ F.entry_tuple_ne (F.args_tuple_ne_2 _ _) (tuple_ne_same l b items items2 n n2 dd dd2 sl sl2 hsz)
    ⟨ho, ho2, he, show Value.bool false ≠ Value.notImplemented ∧ Q (.bool false) s from ⟨(fun x => nomatch x), h⟩⟩) hu
end
end PySem.SeqAt
namespace G
open PySem L2 PySem.Spec PyProof.Rows
open PySem.SeqAt (EqIn EqAt rcIn_lists rcIn_tuples)
def lfB : V → Bool
  | .non => true
  | .bl _ => true
  | .int _ => true
  | .str _ => true
  | _ => false
/-- alike, dicts within -/
inductive Sim (K : PySem.W.Frag) (H : Hp) : Nat → V → V → Prop
  | leaf {n : Nat} {v : V} : lfB v = true → Sim K H (n + 1) v v
  | tup {n : Nat} {a b : Addr} {xs ys : List V} : SqT K H a xs → SqT K H b ys → xs.length = ys.length → (∀ (i : Nat) v w, xs[i]? = some v → ys[i]? = some w → Sim K H n v w) → Sim K H (n + 1) (.ref a) (.ref b)
  | lst {n : Nat} {a b : Addr} {xs ys : List V} : SqL K H a xs → SqL K H b ys → xs.length = ys.length → (∀ (i : Nat) v w, xs[i]? = some v → ys[i]? = some w → Sim K H n v w) → Sim K H (n + 1) (.ref a) (.ref b)
  | dic {n : Nat} {a b : Addr} {ks ls : List (Key × V)} : H a = some (.dK ks) → H b = some (.dK ls) → ks.length = ls.length → (∀ p ∈ ks, valV ls p.1 = some p.2 ∧ flatB p.2 = true) → Sim K H (n + 1) (.ref a) (.ref b)
theorem eqIn_flat {prog : Program} {w : World} {A : Around} {s : Shared} {v : V} {a b : Value} (h : lfB v = true) (r1 : RelV v a) (r2 : RelV v b) : EqIn prog w A s a b true := by
  cases v <;> first | (cases h; done) | skip
  · rw [show a = _ from r1, show b = _ from r2]; exact (EqAt.same _).inModel _ _
  · rw [show a = _ from r1, show b = _ from r2]; exact (EqAt.same _).inModel _ _
  · rename_i i
    obtain ⟨t, rfl⟩ := r1
    obtain ⟨u, rfl⟩ := r2
    have := (EqAt.int_int (A := A) (s := s) i t i u).inModel prog w
    simpa using this
  · rename_i i
    obtain ⟨t, rfl⟩ := r1
    obtain ⟨u, rfl⟩ := r2
    have := (EqAt.str_str (A := A) (s := s) i t i u).inModel prog w
    simpa using this
section
variable {X : Cx} {pins : List (Addr × Obj)} {σ : L2.St} {H : Hp} {s : Shared}
theorem vals_at {xs : List V} {us : List Value} (r : Vals xs us) {j : Nat} (h : j < us.length) : ∃ v, xs[j]? = some v ∧ RelV v us[j] := by
  have hx : j < xs.length := by rw [r.length]; exact h
  obtain ⟨u, e, q⟩ := r.get (List.getElem?_eq_getElem hx)
  refine ⟨_, List.getElem?_eq_getElem hx, ?_⟩
  rw [List.getElem?_eq_getElem h] at e
  cases e
  exact q
theorem all_tt : ∀ (l : List Nat), (l.all fun _ => true) = true := fun l => List.all_eq_true.mpr fun _ _ => rfl
theorem sim_in (I : Inv X pins σ H s) {n : Nat} {v w : V} (h : Sim X.K H n v w) : ∀ (A : Around) (a b : Value), A.units + n < cLine → RelV v a → RelV w b → EqIn X.prog X.w A s a b true := by
  induction h with
  | leaf f => exact fun A a b hu r1 r2 => eqIn_flat f r1 r2
  | @tup n p q xs ys h1 h2 hl _ ih =>
    intro A a b hu r1 r2
    obtain rfl : a = Value.ref p := r1
    obtain rfl : b = Value.ref q := r2
    by_cases c : p = q
    · subst c; exact (EqAt.same _).inModel _ _
    · obtain ⟨i1, v1, t1, _⟩ := I.tuple h1
      obtain ⟨i2, v2, t2, _⟩ := I.tuple h2
      refine SeqAt.EqIn.of_refs c fun E Q hq => rcIn_tuples (e := fun _ => true) t1 t2 (by omega) (fun j j1 j2 => ?_) ?_
      · obtain ⟨x, x1, x2⟩ := vals_at v1 (j := j) (by simpa using j1)
        obtain ⟨y, y1, y2⟩ := vals_at v2 (j := j) (by simpa using j2)
        exact ih j x y x1 y1 A.in1 _ _ (by show A.units + 1 + n < cLine; omega) (by simpa using x2) (by simpa using y2)
      · have e : i1.length = i2.length := by rw [← v1.length, ← v2.length, hl]
        have z : ((List.range (min i1.toArray.size i2.toArray.size)).all (fun _ => true) && i1.toArray.size == i2.toArray.size) = true := by
          rw [all_tt]
          simp [e]
        rw [z]
        exact hq
  | @lst n p q xs ys h1 h2 hl _ ih =>
    intro A a b hu r1 r2
    obtain rfl : a = Value.ref p := r1
    obtain rfl : b = Value.ref q := r2
    by_cases c : p = q
    · subst c; exact (EqAt.same _).inModel _ _
    · obtain ⟨i1, v1, ⟨o1, n1, ho1, hc1, _, hd1⟩, _⟩ := I.list h1
      obtain ⟨i2, v2, ⟨o2, n2, ho2, hc2, _, hd2⟩, _⟩ := I.list h2
      have e : i1.length = i2.length := by rw [← v1.length, ← v2.length, hl]
      refine SeqAt.EqIn.of_refs c fun E Q hq => rcIn_lists (e := fun _ => true) (items := i1.toArray) (items2 := i2.toArray) ⟨o1, ho1, hc1, n1, hd1⟩ ⟨o2, ho2, hc2, n2, hd2⟩ (by simpa using e) (by omega) (fun j j1 j2 => ?_) ?_
      · obtain ⟨x, x1, x2⟩ := vals_at v1 (j := j) (by simpa using j1)
        obtain ⟨y, y1, y2⟩ := vals_at v2 (j := j) (by simpa using j2)
        exact ih j x y x1 y1 A.in1 _ _ (by show A.units + 1 + n < cLine; omega) (by simpa using x2) (by simpa using y2)
      · rw [all_tt]
        exact hq
  | @dic n p q ks ls h1 h2 hl hp =>
    intro A a b hu r1 r2
    obtain rfl : a = Value.ref p := r1
    obtain rfl : b = Value.ref q := r2
    by_cases c : p = q
    · subst c; exact (EqAt.same _).inModel _ _
    · obtain ⟨_, ya, va, ra, da⟩ := (show ObjOk X.prog X.w H s.heap p (.dK ks) from I.hok p _ h1)
      obtain ⟨_, yb, vb, rb, db⟩ := (show ObjOk X.prog X.w H s.heap q (.dK ls) from I.hok q _ h2)
      have hl2 : va.length = vb.length := by rw [← ra.length, ← rb.length]; exact hl
      exact SeqAt.EqIn.of_refs c fun E Q hq => PySem.W.keq_eq (knd := mixKind X.prog X.w) (r := true) ya yb da db (by omega) (fun _ => hits_all rb ra hp) (by simpa [hl2] using hq)
end
section
variable {X : Cx} {cl : Str → Addr}
def rNeS (K : PySem.W.Frag) : R2 := fun x y H Q => ∃ a b xs ys, x = .ref a ∧ y = .ref b ∧ SqT K H a xs ∧ SqT K H b ys ∧ xs.length = ys.length ∧ (∀ (i : Nat) v w, xs[i]? = some v → ys[i]? = some w → Sim K H 8 v w) ∧ Q (.bl false) H
theorem op_neS (hu : X.A.units + 64 < cLine) : OpR X (compareOp .NotEq) (rNeS X.K) := by
  intro pins s σ H x y v u Q I rx ry h
  obtain ⟨a, b, xs, ys, rfl, rfl, h1, h2, hl, hp, q⟩ := h
  obtain rfl : v = Value.ref a := rx
  obtain rfl : u = Value.ref b := ry
  obtain ⟨i1, v1, t1, _⟩ := I.tuple h1
  obtain ⟨i2, v2, t2, _⟩ := I.tuple h2
  refine SeqAt.ne_tuples_same (items := i1.toArray) (items2 := i2.toArray) t1 t2 (by simpa using (show i1.length = i2.length by rw [← v1.length, ← v2.length, hl])) (by omega) (fun j j1 j2 => ?_) ⟨.bl false, H, I, rfl, q⟩
  obtain ⟨x, x1, x2⟩ := vals_at v1 (j := j) (by simpa using j1)
  obtain ⟨y, y1, y2⟩ := vals_at v2 (j := j) (by simpa using j2)
  exact sim_in I (hp j x y x1 y1) _ _ _ (by show X.A.units + 1 + 8 < cLine; omega) (by simpa using x2) (by simpa using y2)
theorem simL_ok {K : PySem.W.Frag} {bs : List Addr} {H : Hp} {f : D → D → Bool} {T : V → V → Prop} (hf : ∀ x y v w, f x y = true → Rp K cl bs H x v → Rp K cl bs H y w → T v w) : ∀ {xs ys : List D} {vs ws : List V}, simL f xs ys = true → RpL K cl bs H xs vs → RpL K cl bs H ys ws → vs.length = ws.length ∧ ∀ (i : Nat) v w, vs[i]? = some v → ws[i]? = some w → T v w
  | [], [], _, _, _, r1, r2 => by cases r1; cases r2; exact ⟨rfl, fun i v w e => by simp at e⟩
  | [], _ :: _, _, _, h, _, _ => by simp [simL] at h
  | _ :: _, [], _, _, h, _, _ => by simp [simL] at h
  | x :: xs, y :: ys, _, _, h, r1, r2 => by
    simp only [simL, Bool.and_eq_true] at h
    cases r1 with
    | cons p1 q1 =>
      cases r2 with
      | cons p2 q2 =>
        obtain ⟨e, g⟩ := simL_ok hf h.2 q1 q2
        refine ⟨by simp [e], fun i v w e1 e2 => ?_⟩
        cases i with
        | zero => cases e1; cases e2; exact hf _ _ _ _ h.1 p1 p2
        | succ i => exact g i v w (by simpa using e1) (by simpa using e2)
theorem simD_ok {K : PySem.W.Frag} {bs : List Addr} {s : Sto} {H : Hp} (S : StR K cl bs s H) : ∀ (n : Nat) (x y : D) (v w : V), simD s n x y = true → Rp K cl bs H x v → Rp K cl bs H y w → Sim K H n v w
  | 0, x, y, _, _, h, _, _ => by simp [simD] at h
  | n + 1, x, y, v, w, h, r1, r2 => by
    have fl : (flatD x && decide (eqS y x = some true)) = true → Sim K H (n + 1) v w := fun h => by
      simp only [Bool.and_eq_true, decide_eq_true_eq] at h
      obtain ⟨e1, e2⟩ := flat_eq h.1 h.2 r1 r2
      rw [e1]
      refine .leaf ?_
      have h0 := h.1
      cases r1 <;> first | rfl | (cases h0; done)
    cases x with
    | non => exact fl (by simpa [simD] using h)
    | bl b => exact fl (by simpa [simD] using h)
    | int b => exact fl (by simpa [simD] using h)
    | str b => exact fl (by simpa [simD] using h)
    | lst b => exact fl (by simpa [simD] using h)
    | fn b => exact fl (by simpa [simD] using h)
    | tup xs =>
      cases y with
      | tup ys =>
        simp only [simD] at h
        cases r1 with
        | tup h1 q1 =>
          cases r2 with
          | tup h2 q2 =>
            obtain ⟨e, g⟩ := simL_ok (T := Sim K H n) (fun x y v w e p q => simD_ok S n x y v w e p q) h q1 q2
            exact .tup (sqT_mono (fun a o e => (hid_some e).2) h1) (sqT_mono (fun a o e => (hid_some e).2) h2) e g
      | _ => exact fl (by simpa [simD] using h)
    | box i =>
      cases y with
      | box j =>
        simp only [simD] at h
        cases e1 : lAt s i with
        | some xs =>
          cases e2 : lAt s j with
          | some ys =>
            rw [e1, e2] at h
            simp only at h
            obtain ⟨p, vs, rfl, _, a2, a3⟩ := S.lst e1 r1
            obtain ⟨q, ws, rfl, _, b2, b3⟩ := S.lst e2 r2
            obtain ⟨e, g⟩ := simL_ok (T := Sim K H n) (fun x y v w e p q => simD_ok S n x y v w e p q) h a3 b3
            exact .lst (SqL.of a2) (SqL.of b2) e g
          | none =>
            rw [e1, e2] at h
            unfold lAt at e1
            split at e1
            · rename_i z
              rw [z] at h
              simp at h
            · cases e1
        | none =>
          rw [e1] at h
          simp only at h
          split at h
          · rename_i ks ls z1 z2
            have q1 : dkWr s (.box i) = some ks := by show (match s[i]? with | some (MO.dk kvs) => some kvs | x => none) = _; rw [z1]
            have q2 : dkWr s (.box j) = some ls := by show (match s[j]? with | some (MO.dk kvs) => some kvs | x => none) = _; rw [z2]
            obtain ⟨_, a, kv, _, _, rfl, _, f2, f3⟩ := dk_wr S r1 q1
            obtain ⟨_, b, lv, _, _, rfl, _, f5, f6⟩ := dk_wr S r2 q2
            obtain ⟨g1, g2⟩ := alike_ok h f3 f6
            exact .dic f2 f5 g1 g2
          · cases h
      | _ => exact fl (by simpa [simD] using h)
theorem og_ne3 (hu : X.A.units + 64 < cLine) : OpG X cl (compareOp .NotEq) dNe3 := by
  refine ⟨_, op_neS hu, ?_⟩
  intro W bs s H x y v w Q S r1 r2 h
  by_cases c : simT s x y = true
  · have q := Run.of_ok h (a := .bl false) (t := s) (by unfold dNe3; rw [if_pos c]) bs H (Gr.refl _ _) S _ (.bl _)
    cases x with
    | tup xs =>
      cases y with
      | tup ys =>
        have c : simL (simD s 8) xs ys = true := c
        cases r1 with
        | tup h1 q1 =>
          cases r2 with
          | tup h2 q2 =>
            obtain ⟨e, g⟩ := simL_ok (T := Sim X.K H 8) (fun x y v w e p q => simD_ok S 8 x y v w e p q) c q1 q2
            exact ⟨_, _, _, _, rfl, rfl, sqT_mono (fun a o e => (hid_some e).2) h1, sqT_mono (fun a o e => (hid_some e).2) h2, e, g, q⟩
      | _ => simp [simT] at c
    | _ => simp [simT] at c
  · exact (Run.of_no h (by unfold dNe3; rw [if_neg c])).elim
variable {W : WX} {o : Expr} {co : CE} {apos cpos : Pos}
theorem s_clearD (ho : SE X cl W o co) (hbase : attributeBase o "clear" X.env (eval o X.env) = eval o X.env := by rfl) (hline : (apos.endLine == cpos.line) = true := by rfl) : SE X cl W (.Call (.Attribute o "clear" apos) [] [] cpos) (cClrD co) :=
  PE.imp (pe_dclear ho hbase hline) fun σ H Q ⟨bs, s, e, S, N, h⟩ => by
    refine ⟨bs, s, e, S, N, (Run.bnd h).imp fun x b1 t1 H1 g1 S1 h1 v r1 => ?_⟩
    cases q : dkWr t1 x with
    | none => exact (Run.of_no h1 (by
        unfold dClrD
        cases x with
        | box j =>
          unfold dkWr at q
          cases z : t1[j]? with
          | none => simp only [z]
          | some m => cases m <;> first | (simp only [z]; done) | (simp [z] at q; done)
        | _ => rfl)).elim
    | some kvs =>
      obtain ⟨j, p, ws, rfl, a1, rfl, a2, a3, a4⟩ := dk_wr S1 r1 q
      refine ⟨.inr (.inr (.inl ⟨rfl, .inl ⟨ws, a3⟩⟩)), p, ws, rfl, rfl, a3, ?_⟩
      exact h1.of_ok (a := .non) (t := t1.set j (.dk [])) (by unfold dClrD; simp only [a1]) b1 _ (gr_write a2 a3) (S1.write a2 a3 (m := .dk []) (o := .dK []) .nil) _ .non
end
end G

set_option Elab.async false
set_option linter.all false
set_option maxRecDepth 100000
set_option maxHeartbeats 4000000
/-! G, data level: != of lists of rows that hold dicts; enumerate -/
namespace G
open PySem L2
/-- two lists whose items are alike -/
def simTL (s : Sto) : D → D → Bool
  | .box i, .box j => (match lAt s i, lAt s j with
    | some xs, some ys => simL (simD s 8) xs ys
    | _, _ => false)
  | _, _ => false
def dNe4 (x y : D) : Cm D := fun s => if simTL s x y = true then .ok (.bl false) s else .no
theorem r_ne4 {s : Sto} {i j : Nat} {xs ys : List D} {Q : D → Sto → Prop} {E : XP} {u : Lk2 Q E} (hi : At s i (.lst xs)) (hj : At s j (.lst ys)) (h : simL (simD s 8) xs ys = true) (k : Q (.bl false) s) : wp (dNe4 (.box i) (.box j)) s Q E u := by
  have e : simTL s (.box i) (.box j) = true := by simp only [simTL, lAt_at hi, lAt_at hj]; exact h
  unfold wp dNe4
  simp only [e, if_true]
  exact k
theorem simL_get {f : D → D → Bool} : ∀ {xs ys : List D}, xs.length = ys.length → (∀ (i : Nat) x y, xs[i]? = some x → ys[i]? = some y → f x y = true) → simL f xs ys = true
  | [], [], _, _ => rfl
  | [], _ :: _, h, _ => by simp at h
  | _ :: _, [], h, _ => by simp at h
  | x :: xs, y :: ys, h, q => by
    show (f x y && simL f xs ys) = true
    rw [q 0 x y rfl rfl, simL_get (by simpa using h) fun i x y h1 h2 => q (i + 1) x y (by simpa using h1) (by simpa using h2)]
    rfl
theorem enumD_len : ∀ {k : Int} {xs : List D}, (enumD k xs).length = xs.length
  | _, [] => rfl
  | k, x :: xs => by simp only [enumD, List.length_cons, enumD_len]
theorem enumD_get : ∀ {k : Int} {xs : List D} {i : Nat} {x : D}, xs[i]? = some x → (enumD k xs)[i]? = some (.tup [.int (k + i), x])
  | _, [], i, x, h => by simp at h
  | k, y :: xs, 0, x, h => by
    simp at h
    subst h
    simp [enumD]
  | k, y :: xs, i + 1, x, h => by
    have q := enumD_get (k := k + 1) (xs := xs) (i := i) (x := x) (by simpa using h)
    simp only [enumD, List.getElem?_cons_succ, q]
    rw [show k + 1 + (i : Int) = k + ((i + 1 : Nat) : Int) by omega]
theorem enumD_inv {k : Int} {xs : List D} {i : Nat} {d : D} (h : (enumD k xs)[i]? = some d) : ∃ x, xs[i]? = some x ∧ d = .tup [.int (k + i), x] := by
  have hi : i < xs.length := by
    have := (List.getElem?_eq_some_iff.mp h).1
    rw [enumD_len] at this
    exact this
  have q := enumD_get (k := k) (List.getElem?_eq_getElem hi)
  rw [h] at q
  exact ⟨_, List.getElem?_eq_getElem hi, Option.some.inj q⟩
@[simp ↓] theorem wp_iEnum {k : Int} {a : CE} {e : En} {s : Sto} {E : XP} {P : Src → Sto → Prop} {u : Lk2 P E} : wp (iEnum k a e) s P E u = wp (a e) s (fun d t => gd (∃ xs, rowOf t d = some xs) (P (.enum k d) t)) E := by
  unfold iEnum
  rw [wp_bnd]
  refine wp_congr fun d t => ?_
  unfold wp gd
  dsimp only
  cases q : rowOf t d with
  | none => exact propext ⟨fun z => False.elim z, fun ⟨⟨_, z⟩, _⟩ => nomatch z⟩
  | some xs => exact propext ⟨fun z => ⟨⟨xs, rfl⟩, z⟩, fun z => z.2⟩
end G

set_option Elab.async false
set_option linter.all false
set_option maxRecDepth 100000
set_option maxHeartbeats 4000000
/-! G, data level: raise, try, defs that raise -/
namespace G
open PySem L2
/-- raise C(e, ..), C an own class whose __init__ keeps its arguments as the fields fns -/
def sRaise (c : Str) (fns : List Str) (aa : CA) : CS := fun e => lft e (aa e) fun ds s => if ds.length = fns.length then .ok (.ex c (fns.zip ds).reverse e) s else .no
def noEx (m : Cm Fl) : Cm Fl := fun s => match m s with
  | .ok fl t => match fl with
    | .nx e => .ok (.nx e) t
    | .rt d => .ok (.rt d) t
    | .bk e => .ok (.bk e) t
    | .ct e => .ok (.ct e) t
    | .ex _ _ _ => .no
  | .ex _ _ _ => .no
  | .no => .no
/-- try: b / except C: h; cs: what of the classes raised C catches -/
def sTryO (cs : List Str) (b h : CS) : CS := fun e s => match b e s with
  | .ok fl t => match fl with
    | .nx e' => .ok (.nx e') t
    | .rt d => .ok (.rt d) t
    | .bk e' => .ok (.bk e') t
    | .ct e' => .ok (.ct e') t
    | .ex c fs e' => if c ∈ cs then noEx (h e') t else .no
  | .ex c fs t => .ex c fs t
  | .no => .no
/-- a def that raises -/
def noX {α : Type} (m : Cm α) : Cm α := fun s => match m s with
  | .ok a t => .ok a t
  | .ex _ _ _ => .no
  | .no => .no
/-- a call of a def that raises nothing, where an exception would matter -/
def cCalm (g : List D → Cm D) (a : CA) : CE := fun e => bnd (a e) fun xs => noX (g xs)
def dfr (n m : Nat) (body : CS) : List D → Cm D := fun ds => if ds.length = n then
    bnd (noX (body (ds.map some ++ List.replicate (m - n) none))) (fun fl => match fl with
      | .nx _ => ret .non
      | .rt d => ret d
      | .ex c fs _ => fun s => .ex c fs s
      | .bk _ => noC
      | .ct _ => noC) else noC
section
variable {e : En} {s : Sto} {N B C : En → Sto → Prop} {Rt : D → Sto → Prop} {E : XP} {v : Lk5 N Rt B C E}
theorem wp_noX {α : Type} {m : Cm α} {Q : α → Sto → Prop} {u : Lk2 Q E} : wp (noX m) s Q E u = wp m s Q NX := by
  unfold wp noX
  cases m s <;> rfl
@[simp ↓] theorem wp_cCalm {g : List D → Cm D} {a : CA} {Q : D → Sto → Prop} {u : Lk2 Q E} : wp (cCalm g a e) s Q E u = wp (a e) s (fun xs t => wp (g xs) t Q NX) E := by
  unfold cCalm
  rw [wp_bnd]
  exact wp_congr fun xs t => wp_noX
/-- the way out of a raise -/
def exW (E : XP) (c : Str) (fs : List (Str × D)) (t : Sto) (_ : Lk1 E := .u) : Prop := E c fs t
@[simp ↓] theorem ws_raise {c : Str} {fns : List Str} {aa : CA} : ws (sRaise c fns aa) e s N Rt B C E v = wp (aa e) s (fun ds t => ds.length = fns.length ∧ exW E c (fns.zip ds).reverse t) E := by
  unfold ws sRaise
  rw [wp_lft]
  refine wp_congr fun ds t => ?_
  unfold wp
  by_cases h : ds.length = fns.length
  · simp only
    rw [if_pos h]
    exact propext ⟨fun z => ⟨h, z⟩, fun z => z.2⟩
  · simp only
    rw [if_neg h]
    exact propext ⟨fun z => z.elim, fun z => absurd z.1 h⟩
theorem noEx_ws {h : CS} {t : Sto} : wp (noEx (h e) ) t (fun fl t => match fl with
  | .nx e' => N e' t
  | .rt d => Rt d t
  | .bk e' => B e' t
  | .ct e' => C e' t
  | .ex c fs _ => E c fs t) NX = ws h e t N Rt B C NX := by
  unfold ws wp noEx
  cases h e t with
  | ok fl t => cases fl <;> rfl
  | ex c fs t => rfl
  | no => rfl
/-- try: name = e / except C: .. -/
@[simp ↓] theorem ws_tryS {cs : List Str} {i : Nat} {c : CE} {h : CS} : ws (sTryO cs (sSet i c) h) e s N Rt B C E v = wp (c e) s (fun d t => stK e i (some d) fun e' => N e' t) (fun cn fs t => cn ∈ cs ∧ ws h e t N Rt B C NX) := by
  show ws (sTryO cs (sSet i c) h) e s N Rt B C E = _
  have k : ∀ t, wp (noEx (h e)) t _ NX = ws h e t N Rt B C NX := fun t => noEx_ws (E := E)
  unfold ws wp sTryO sSet lft
  cases c e s with
  | ok d t => rfl
  | ex cn fs t =>
    simp only
    by_cases q : cn ∈ cs
    · rw [if_pos q]
      have k := k t
      unfold ws wp at k
      refine Eq.trans ?_ (propext ⟨fun z => ⟨q, z⟩, fun z => z.2⟩)
      exact k
    · rw [if_neg q]
      exact propext ⟨fun z => z.elim, fun z => absurd z.1 q⟩
  | no => rfl
/-- try: e / except C: .. -/
@[simp ↓] theorem ws_tryD {cs : List Str} {c : CE} {h : CS} : ws (sTryO cs (sDrop c) h) e s N Rt B C E v = wp (c e) s (fun d t => N e t) (fun cn fs t => cn ∈ cs ∧ ws h e t N Rt B C NX) := by
  show ws (sTryO cs (sDrop c) h) e s N Rt B C E = _
  have k : ∀ t, wp (noEx (h e)) t _ NX = ws h e t N Rt B C NX := fun t => noEx_ws (E := E)
  unfold ws wp sTryO sDrop lft
  cases c e s with
  | ok d t => rfl
  | ex cn fs t =>
    simp only
    by_cases q : cn ∈ cs
    · rw [if_pos q]
      have k := k t
      unfold ws wp at k
      refine Eq.trans ?_ (propext ⟨fun z => ⟨q, z⟩, fun z => z.2⟩)
      exact k
    · rw [if_neg q]
      exact propext ⟨fun z => z.elim, fun z => absurd z.1 q⟩
  | no => rfl
theorem wp_dfr {n m : Nat} {c : CS} {ds : List D} {Q : D → Sto → Prop} {u : Lk2 Q E} (h : ds.length = n) (k : ws c (ds.map some ++ List.replicate (m - n) none) s (fun _ t => Q .non t) Q NE NE E) : wp (dfr n m c ds) s Q E u := by
  unfold dfr
  rw [if_pos h]
  unfold ws wp at k
  unfold wp G.bnd noX
  cases q : c (ds.map some ++ List.replicate (m - n) none) s with
  | no => rw [q] at k; exact k
  | ex cc fs t => rw [q] at k; exact k.elim
  | ok fl t =>
    rw [q] at k
    cases fl with
    | nx e' => exact k
    | rt d => exact k
    | bk e' => exact k.elim
    | ct e' => exact k.elim
    | ex cc fs e' => exact k
theorem r_itsF {i j : Nat} {kvs : List (Key × D)} {P : Src → Sto → Prop} {u : Lk2 P E} (hi : sl e i = some (.box j)) (h : At s j (.fd kvs)) (k : P (.dits j) s) : wp (iItsF i e) s P E u := by
  have h : s[j]? = some (.fd kvs) := h
  unfold wp iItsF
  simp only [hi, h]
  exact k
theorem items_di {j : Nat} {kvs : List (Key × D)} (h : At s j (.fd kvs)) : Src.items s (.dits j) = some (kvs.map fun (kv : Key × D) => D.tup [keyD kv.1, kv.2]) := by
  have h : s[j]? = some (.fd kvs) := h
  show (match s[j]? with | some (.fd kvs) => some (kvs.map fun (kv : Key × D) => D.tup [keyD kv.1, kv.2]) | _ => none) = _
  simp only [h]
theorem r_valsF {i j : Nat} {kvs : List (Key × D)} {P : Src → Sto → Prop} {u : Lk2 P E} (hi : sl e i = some (.box j)) (h : At s j (.fd kvs)) (k : P (.dvals j) s) : wp (iValsF i e) s P E u := by
  have h : s[j]? = some (.fd kvs) := h
  unfold wp iValsF
  simp only [hi, h]
  exact k
theorem items_dv {j : Nat} {kvs : List (Key × D)} (h : At s j (.fd kvs)) : Src.items s (.dvals j) = some (kvs.map fun (kv : Key × D) => kv.2) := by
  have h : s[j]? = some (.fd kvs) := h
  show (match s[j]? with | some (.fd kvs) => some (kvs.map fun (kv : Key × D) => kv.2) | _ => none) = _
  simp only [h]
end
end G

set_option Elab.async false
set_option linter.all false
set_option maxRecDepth 100000
set_option maxHeartbeats 4000000
/-! G, data level: a name that holds a def, called -/
namespace G
open PySem L2
abbrev FT := List (Str × (List D → Cm D))
def lookF : FT → Str → Option (List D → Cm D)
  | [], _ => none
  | (y, g) :: r, x => if y = x then some g else lookF r x
def pickF (tbl : FT) : D → Option (List D → Cm D)
  | .fn x => lookF tbl x
  | _ => none
/-- NAME(e, ..): the name in slot i holds one of the defs of the table -/
def cCallV (i : Nat) (tbl : FT) (a : CA) : CE := fun e => match sl e i with
  | some d => match pickF tbl d with
    | some g => bnd (a e) g
    | none => noC
  | none => noC
/-- .. where an exception would matter -/
def cCalmV (i : Nat) (tbl : FT) (a : CA) : CE := fun e => match sl e i with
  | some d => match pickF tbl d with
    | some g => bnd (a e) fun xs => noX (g xs)
    | none => noC
  | none => noC
def onFn (tbl : FT) (d : D) (k : (List D → Cm D) → Prop) (_ : Lk1 k := .u) : Prop := match pickF tbl d with
  | some g => k g
  | none => False
@[simp ↓] theorem onFn_cons {y x : Str} {g : List D → Cm D} {r : FT} {k : (List D → Cm D) → Prop} {u : Lk1 k} : onFn ((y, g) :: r) (.fn x) k u = sel (decide (y = x)) (k g) (onFn r (.fn x) k) := by
  have e : pickF ((y, g) :: r) (.fn x) = if y = x then some g else pickF r (.fn x) := rfl
  unfold onFn
  rw [e]
  by_cases c : y = x
  · rw [if_pos c, decide_eq_true c, sel_true]
  · rw [if_neg c, decide_eq_false c, sel_false]
theorem onFn_i {tbl : FT} {x : Str} {g : List D → Cm D} {k : (List D → Cm D) → Prop} {u : Lk1 k} (h : lookF tbl x = some g) (q : k g) : onFn tbl (.fn x) k u := by
  have e : pickF tbl (.fn x) = some g := h
  unfold onFn
  rw [e]
  exact q
section
variable {e : En} {s : Sto} {Q : D → Sto → Prop} {E : XP} {u : Lk2 Q E}
@[simp ↓] theorem wp_cCallV {i : Nat} {tbl : FT} {a : CA} : wp (cCallV i tbl a e) s Q E u = slK e i fun d => onFn tbl d fun g => wp (a e) s (fun xs t => wp (g xs) t Q E) E := by
  unfold cCallV slK onFn
  cases sl e i with
  | none => rfl
  | some d =>
    dsimp only
    cases pickF tbl d with
    | none => rfl
    | some g => exact wp_bnd
@[simp ↓] theorem wp_cCalmV {i : Nat} {tbl : FT} {a : CA} : wp (cCalmV i tbl a e) s Q E u = slK e i fun d => onFn tbl d fun g => wp (a e) s (fun xs t => wp (g xs) t Q NX) E := by
  unfold cCalmV slK onFn
  cases sl e i with
  | none => rfl
  | some d =>
    dsimp only
    cases pickF tbl d with
    | none => rfl
    | some g =>
      dsimp only
      rw [wp_bnd]
      exact wp_congr fun xs t => wp_noX
end
/-- raise C -/
def sRaiseB (c : Str) : CS := fun e s => .ok (.ex c [] e) s
@[simp ↓] theorem ws_raiseB {c : Str} {e : En} {s : Sto} {N B C : En → Sto → Prop} {Rt : D → Sto → Prop} {E : XP} {v : Lk5 N Rt B C E} : ws (sRaiseB c) e s N Rt B C E v = exW E c [] s := rfl
end G

set_option Elab.async false
set_option linter.all false
set_option maxRecDepth 100000
set_option maxHeartbeats 4000000
/-! G, data level: dicts by tuples of ints and texts -/
namespace G
open PySem L2
def tKeys : List D → Option (List Key)
  | [] => some []
  | d :: ds => match keyOf d, tKeys ds with
    | some k, some ks => some (k :: ks)
    | _, _ => none
/-- a dict by tuples, to be read (locked or not) -/
def dtAt (s : Sto) : D → Option (List (List Key × D))
  | .box j => (match s[j]? with
    | some (.dt kvs) => some kvs
    | some (.ft kvs) => some kvs
    | _ => none)
  | _ => none
def valT (kvs : List (List Key × D)) (k : List Key) : Option D := (kvs.find? fun kv => decide (kv.1 = k)).map (·.2)
def putT (kvs : List (List Key × D)) (k : List Key) (v : D) : List (List Key × D) :=
  if (kvs.any fun kv => decide (kv.1 = k)) = true then kvs.map (fun kv => if kv.1 = k then (kv.1, v) else kv) else kvs ++ [(k, v)]
def cNewT : CE := fun _ => alloc (.dt [])
def getT (kvs : List (List Key × D)) (y : D) : Option D := match y with
  | .tup ds => (match tKeys ds with
    | some k => valT kvs k
    | none => none)
  | _ => none
/-- x[y] of a dict by tuples -/
def dIxT (x y : D) : Cm D := fun s => match dtAt s x with
  | some kvs => (match getT kvs y with
    | some d => .ok d s
    | none => .no)
  | none => .no
/-- o[(e, ..)] = v -/
def putTC (x : D) (ds : List D) (z : D) : Cm Unit := fun s => match x with
  | .box j => (match s[j]? with
    | some (.dt kvs) => (match tKeys ds with
      | some k => if kvs.length < big ∧ ds.length ≤ big then .ok () (s.set j (.dt (putT kvs k z))) else .no
      | none => .no)
    | _ => .no)
  | _ => .no
def sPutT (o : CE) (ks : CA) (v : CE) : CS := fun e => lft e (v e) fun z => lft e (o e) fun x => lft e (ks e) fun ds => lft e (putTC x ds z) fun _ => ret (.nx e)
def dtWr (s : Sto) : D → Option (List (List Key × D))
  | .box j => (match s[j]? with
    | some (.dt kvs) => some kvs
    | _ => none)
  | _ => none
/-- len(x) of a dict too -/
def bLen2 : List D → Cm D
  | [x] => fun s => match dtWr s x with
    | some kvs => .ok (.int kvs.length) s
    | none => (match dkWr s x with
      | some kvs => .ok (.int kvs.length) s
      | none => bLen [x] s)
  | _ => noC
section
variable {e : En} {s : Sto} {Q : D → Sto → Prop} {E : XP} {u : Lk2 Q E}
theorem dtAt_at {j : Nat} {kvs : List (List Key × D)} (h : At s j (.dt kvs)) : dtAt s (.box j) = some kvs := by
  have h : s[j]? = some (.dt kvs) := h
  unfold dtAt
  simp only [h]
theorem dtAt_ft {j : Nat} {kvs : List (List Key × D)} (h : At s j (.ft kvs)) : dtAt s (.box j) = some kvs := by
  have h : s[j]? = some (.ft kvs) := h
  unfold dtAt
  simp only [h]
@[simp ↓] theorem wp_cNewT : wp (cNewT e) s Q E u = wp (alloc (.dt [])) s Q E := propext Iff.rfl
theorem r_ixT {j : Nat} {kvs : List (List Key × D)} {y d : D} (h : At s j (.dt kvs)) (g : getT kvs y = some d) (q : Q d s) : wp (dIxT (.box j) y) s Q E u := by
  unfold wp dIxT
  simp only [dtAt_at h, g]
  exact q
theorem r_ixTf {j : Nat} {kvs : List (List Key × D)} {y d : D} (h : At s j (.ft kvs)) (g : getT kvs y = some d) (q : Q d s) : wp (dIxT (.box j) y) s Q E u := by
  unfold wp dIxT
  simp only [dtAt_ft h, g]
  exact q
theorem r_len2 {j : Nat} {kvs : List (List Key × D)} (h : At s j (.dt kvs)) (q : Q (.int kvs.length) s) : wp (bLen2 [.box j]) s Q E u := by
  have h' : s[j]? = some (.dt kvs) := h
  have e : dtWr s (.box j) = some kvs := by
    unfold dtWr
    simp only [h']
  unfold wp bLen2
  simp only [e]
  exact q
theorem r_len2k {j : Nat} {kvs : List (Key × D)} (h : At s j (.dk kvs)) (q : Q (.int kvs.length) s) : wp (bLen2 [.box j]) s Q E u := by
  have h' : s[j]? = some (.dk kvs) := h
  have e : dtWr s (.box j) = none := by
    unfold dtWr
    simp only [h']
  unfold wp bLen2
  simp only [e, dkWr_at h]
  exact q
theorem r_putDT {j : Nat} {kvs : List (List Key × D)} {ds : List D} {k : List Key} {z : D} {P : Unit → Sto → Prop} {u : Lk2 P E} (h : At s j (.dt kvs)) (hk : tKeys ds = some k) (hl : kvs.length < big ∧ ds.length ≤ big) (q : ∀ t, At t j (.dt (putT kvs k z)) → Fr [j] s t → P () t) : wp (putTC (.box j) ds z) s P E u := by
  have h' : s[j]? = some (.dt kvs) := h
  unfold wp putTC
  simp only [h', hk]
  rw [if_pos hl]
  exact q _ (at_set h) fr_set
variable {N B C : En → Sto → Prop} {Rt : D → Sto → Prop} {v : Lk5 N Rt B C E}
@[simp ↓] theorem ws_putT {o : CE} {ks : CA} {w : CE} : ws (sPutT o ks w) e s N Rt B C E v = wp (w e) s (fun z t => wp (o e) t (fun x u => wp (ks e) u (fun ds w => wp (putTC x ds z) w (fun _ r => N e r) E) E) E) E := by
  unfold ws sPutT
  rw [wp_lft]
  refine wp_congr fun y t => ?_
  rw [wp_lft]
  refine wp_congr fun y t => ?_
  rw [wp_lft]
  refine wp_congr fun y t => ?_
  rw [wp_lft]
  rfl
end
end G

set_option Elab.async false
set_option linter.all false
set_option maxRecDepth 100000
set_option maxHeartbeats 4000000
/-! G, data level: try .. except C as e: the exception is a thing of the store; == of rows that hold dicts by tuples; list(d.values()) -/
namespace G
open PySem L2
/-- the name of the clause goes -/
def goneE (i : Nat) (m : Cm Fl) : Cm Fl := fun s => match m s with
  | .ok fl t => match fl with
    | .nx e => .ok (.nx (st e i none)) t
    | .rt d => .ok (.rt d) t
    | .bk e => .ok (.bk (st e i none)) t
    | .ct e => .ok (.ct (st e i none)) t
    | .ex c fs e => .ok (.ex c fs e) t
  | .ex c fs t => .ex c fs t
  | .no => .no
/-- try: b / except C as (slot i): h; cs: what of the classes raised C catches -/
def sTryA (i : Nat) (cs : List Str) (b h : CS) : CS := fun e s => match b e s with
  | .ok fl t => match fl with
    | .nx e' => .ok (.nx e') t
    | .rt d => .ok (.rt d) t
    | .bk e' => .ok (.bk e') t
    | .ct e' => .ok (.ct e') t
    | .ex c fs e' => if c ∈ cs then goneE i (noEx (h (st e' i (some (.box t.length))))) (t ++ [.exo c t.length fs]) else .no
  | .ex c fs t => .ex c fs t
  | .no => .no
/-- isinstance(x, C) of a caught exception: which classes are, which are not -/
def isE (yes no : List Str) (c : Str) : Option Bool := if c ∈ yes then some true else if c ∈ no then some false else none
def exoAt (s : Sto) : D → Option (Str × List (Str × D))
  | .box j => (match s[j]? with
    | some (.exo c k fs) => if k = j then some (c, fs) else none
    | _ => none)
  | _ => none
def dIsE (yes no : List Str) (x : D) : Cm D := fun s => match exoAt s x with
  | some p => (match isE yes no p.1 with
    | some b => .ok (.bl b) s
    | none => .no)
  | none => .no
/-- e.f, of one of the classes that may be raised -/
def dXfR (raised : List Str) (f : Str) (x : D) : Cm D := fun s => match exoAt s x with
  | some p => if p.1 ∈ raised then (match lkF p.2 f with
    | some d => .ok d s
    | none => .no) else .no
  | none => .no
section
variable {e : En} {s : Sto} {N B C : En → Sto → Prop} {Rt : D → Sto → Prop} {E : XP} {v : Lk5 N Rt B C E} {Q : D → Sto → Prop} {u : Lk2 Q E}
theorem exo_at {j : Nat} {c : Str} {fs : List (Str × D)} (h : At s j (.exo c j fs)) : exoAt s (.box j) = some (c, fs) := by
  have h : s[j]? = some (.exo c j fs) := h
  unfold exoAt
  simp only [h, if_true]
theorem r_isE {yes no : List Str} {j : Nat} {c : Str} {fs : List (Str × D)} {b : Bool} (h : At s j (.exo c j fs)) (hb : isE yes no c = some b) (q : Q (.bl b) s) : wp (dIsE yes no (.box j)) s Q E u := by
  unfold wp dIsE
  simp only [exo_at h, hb]
  exact q
theorem r_isEy {yes no : List Str} {j : Nat} {c : Str} {fs : List (Str × D)} (h : At s j (.exo c j fs)) (hc : c ∈ yes) (q : Q (.bl true) s) : wp (dIsE yes no (.box j)) s Q E u := r_isE h (by unfold isE; rw [if_pos hc]) q
theorem r_isEn {yes no : List Str} {j : Nat} {c : Str} {fs : List (Str × D)} (h : At s j (.exo c j fs)) (hc : c ∉ yes) (hn : c ∈ no) (q : Q (.bl false) s) : wp (dIsE yes no (.box j)) s Q E u := r_isE h (by unfold isE; rw [if_neg hc, if_pos hn]) q
theorem r_xf {f : Str} {raised : List Str} {j : Nat} {c : Str} {fs : List (Str × D)} {d : D} (h : At s j (.exo c j fs)) (hc : c ∈ raised) (hb : lkF fs f = some d) (q : Q d s) : wp (dXfR raised f (.box j)) s Q E u := by
  unfold wp dXfR
  simp only [exo_at h, hb, if_pos hc]
  exact q
/-- what it raises, it raises with the slots as they were -/
def KeepE (b : CS) : Prop := ∀ e s c fs e' t, b e s = .ok (.ex c fs e') t → e' = e
theorem keep_set {i : Nat} {c : CE} : KeepE (sSet i c) := by
  intro e s cn fs e' t h
  unfold sSet lft at h
  cases q : c e s with
  | ok d t' => rw [q] at h; cases h
  | ex a b c => rw [q] at h; cases h; rfl
  | no => rw [q] at h; cases h
theorem keep_drop {c : CE} : KeepE (sDrop c) := by
  intro e s cn fs e' t h
  unfold sDrop lft at h
  cases q : c e s with
  | ok d t' => rw [q] at h; cases h
  | ex a b c => rw [q] at h; cases h; rfl
  | no => rw [q] at h; cases h
theorem keep_if {t : CT} {a b : CS} (ha : KeepE a) (hb : KeepE b) : KeepE (sIf t a b) := by
  intro e s cn fs e' u h
  unfold sIf lft at h
  cases q : t e s with
  | ok d t' =>
    rw [q] at h
    dsimp only at h
    cases d
    · exact hb _ _ _ _ _ _ h
    · exact ha _ _ _ _ _ _ h
  | ex a b c => rw [q] at h; cases h; rfl
  | no => rw [q] at h; cases h
/-- a thing that is new -/
theorem ws_tryA {cs : List Str} {i : Nat} {b h : CS} (hk : KeepE b)
    (k : ws b e s N Rt B C (fun c fs t => c ∈ cs ∧ ∀ t' j, At t' j (.exo c j fs) → Nw t j → Fr [] t t' → stK e i (some (.box j)) fun e1 => ws h e1 t' (fun e' u => stK e' i none fun e2 => N e2 u) Rt (fun e' u => stK e' i none fun e2 => B e2 u) (fun e' u => stK e' i none fun e2 => C e2 u) NX)) : ws (sTryA i cs b h) e s N Rt B C E v := by
  unfold ws wp at k ⊢
  unfold sTryA
  cases q : b e s with
  | no => rw [q] at k; exact k
  | ex c fs t => rw [q] at k; exact k
  | ok fl t =>
    rw [q] at k
    cases fl with
    | nx e' => exact k
    | rt d => exact k
    | bk e' => exact k
    | ct e' => exact k
    | ex c fs e' =>
      have ee := hk _ _ _ _ _ _ q
      subst ee
      obtain ⟨k1, k2⟩ := k
      dsimp only
      rw [if_pos k1]
      have k3 := k2 _ _ (at_push (m := .exo c t.length fs)) (Nat.le_refl _) fr_push
      simp only [stK, ws, wp] at k3
      unfold goneE noEx
      cases q3 : h (st e' i (some (.box t.length))) (t ++ [.exo c t.length fs]) with
      | no => rw [q3] at k3; exact k3
      | ex a b c => rw [q3] at k3; exact k3
      | ok fl2 t2 =>
        rw [q3] at k3
        cases fl2 <;> exact k3
end
/-! ### == and != of rows that hold dicts by tuples, where both are alike -/
def sameF (x y : D) : Bool := flatD x && decide (eqS y x = some true)
def alikeT (ks ls : List (List Key × D)) : Bool := decide (ks.map (·.1) = ls.map (·.1)) && simL sameF (ks.map (·.2)) (ls.map (·.2))
def simE (s : Sto) : D → D → Bool
  | .box i, .box j => (match s[i]?, s[j]? with
    | some (.dt ks), some (.dt ls) => alikeT ks ls
    | _, _ => simD s 7 (.box i) (.box j))
  | x, y => simD s 7 x y
def simTT (s : Sto) : D → D → Bool
  | .tup xs, .tup ys => simL (simE s) xs ys
  | _, _ => false
def dEqT (x y : D) : Cm D := fun s => if simTT s x y = true then .ok (.bl true) s else .no
def dNeT (x y : D) : Cm D := fun s => if simTT s x y = true then .ok (.bl false) s else .no
/-- list(d.values()) of a dict by tuples -/
def dValsL (x : D) : Cm D := fun s => match x with
  | .box j => (match s[j]? with
    | some (.dt kvs) => alloc (.lst (kvs.map (·.2))) s
    | _ => .no)
  | _ => .no
/-- d.clear() of a dict by tuples -/
def dClrT (x : D) : Cm D := fun s => match x with
  | .box j => (match s[j]? with
    | some (.dt _) => .ok .non (s.set j (.dt []))
    | _ => .no)
  | _ => .no
/-- a tuple, k times, once too -/
def dMulT : D → D → Cm D
  | .tup xs, .int k => if xs ≠ [] ∧ 1 ≤ k ∧ k ≤ 1000 ∧ xs.length ≤ 1000 then ret (.tup (List.replicate k.toNat xs).flatten) else noC
  | _, _ => noC
/-- == with (), of a tuple of anything -/
def dEqN2 : D → D → Cm D
  | .tup xs, .tup [] => ret (.bl xs.isEmpty)
  | _, _ => noC
section
variable {s : Sto} {Q : D → Sto → Prop} {E : XP} {u : Lk2 Q E}
theorem r_eqT {x y : D} (h : simTT s x y = true) (k : Q (.bl true) s) : wp (dEqT x y) s Q E u := by
  unfold wp dEqT
  simp only [h, if_true]
  exact k
theorem r_neT {x y : D} (h : simTT s x y = true) (k : Q (.bl false) s) : wp (dNeT x y) s Q E u := by
  unfold wp dNeT
  simp only [h, if_true]
  exact k
theorem r_valsL {j : Nat} {kvs : List (List Key × D)} (h : At s j (.dt kvs)) (k : wp (alloc (.lst (kvs.map (·.2)))) s Q E) : wp (dValsL (.box j)) s Q E u := by
  have h : s[j]? = some (.dt kvs) := h
  unfold wp dValsL at *
  simp only [h]
  exact k
theorem r_clrT {j : Nat} {kvs : List (List Key × D)} (h : At s j (.dt kvs)) (k : ∀ t, At t j (.dt []) → Fr [j] s t → Q .non t) : wp (dClrT (.box j)) s Q E u := by
  have e : s[j]? = some (.dt kvs) := h
  unfold wp dClrT
  simp only [e]
  exact k _ (at_set h) fr_set
@[simp ↓] theorem wp_dMulT1 {xs : List D} {k : Int} : wp (dMulT (.tup xs) (.int k)) s Q E u = gd (xs ≠ [] ∧ 1 ≤ k ∧ k ≤ 1000 ∧ xs.length ≤ 1000) (Q (.tup (List.replicate k.toNat xs).flatten) s) := wp_guard
@[simp ↓] theorem wp_dEqN {xs : List D} : wp (dEqN2 (.tup xs) (.tup [])) s Q E u = Q (.bl xs.isEmpty) s := propext Iff.rfl
end
/-! ### a loop over the keys of a dict by tuples: it is locked meanwhile -/
def iKeysT (i : Nat) : CS' := fun e s => match sl e i with
  | some (.box j) => (match s[j]? with
    | some (.ft _) => .ok (.dkeysT j) s
    | _ => .no)
  | _ => .no
open Classical in
noncomputable def sLockT (i : Nat) (c : CS) : CS := fun e s => match sl e i with
  | some (.box j) => (match s[j]? with
    | some (.dt kvs) => (match c e (s.set j (.ft kvs)) with
      | .ok fl t => if t[j]? = some (.ft kvs) ∧ (∀ c fs e', fl ≠ .ex c fs e') then .ok fl (t.set j (.dt kvs)) else .no
      | _ => .no)
    | _ => .no)
  | _ => .no
section
variable {e : En} {s : Sto} {N B C : En → Sto → Prop} {Rt : D → Sto → Prop} {E : XP} {v : Lk5 N Rt B C E}
theorem r_lockT {i j : Nat} {c : CS} {kvs : List (List Key × D)} (hi : sl e i = some (.box j)) (h : At s j (.dt kvs)) (k : ∀ t, At t j (.ft kvs) → Fr [j] s t → ws c e t (fun e' t' => At t' j (.ft kvs) ∧ ∀ u, At u j (.dt kvs) → Fr [j] t' u → N e' u) (fun d t' => At t' j (.ft kvs) ∧ ∀ u, At u j (.dt kvs) → Fr [j] t' u → Rt d u) NE NE NX) : ws (sLockT i c) e s N Rt B C E v := by
  have k := k _ (at_set h) fr_set
  have h : s[j]? = some (.dt kvs) := h
  unfold ws wp at k ⊢
  unfold sLockT
  simp only [hi, h]
  cases q : c e (s.set j (.ft kvs)) with
  | no => rw [q] at k; exact k
  | ex _ _ _ => rw [q] at k; exact k.elim
  | ok fl t =>
    rw [q] at k
    cases fl with
    | nx e' =>
      obtain ⟨k1, k2⟩ := k
      simp only [if_pos (show t[j]? = some (.ft kvs) ∧ (∀ c fs e2, Fl.nx e' ≠ .ex c fs e2) from ⟨k1, fun _ _ _ z => by cases z⟩)]
      exact k2 _ (at_set k1) fr_set
    | rt d =>
      obtain ⟨k1, k2⟩ := k
      simp only [if_pos (show t[j]? = some (.ft kvs) ∧ (∀ c fs e2, Fl.rt d ≠ .ex c fs e2) from ⟨k1, fun _ _ _ z => by cases z⟩)]
      exact k2 _ (at_set k1) fr_set
    | bk e' => exact k.elim
    | ct e' => exact k.elim
    | ex _ _ _ => exact k.elim
theorem r_keysT {i j : Nat} {kvs : List (List Key × D)} {P : Src → Sto → Prop} {u : Lk2 P E} (hi : sl e i = some (.box j)) (h : At s j (.ft kvs)) (k : P (.dkeysT j) s) : wp (iKeysT i e) s P E u := by
  have h : s[j]? = some (.ft kvs) := h
  unfold wp iKeysT
  simp only [hi, h]
  exact k
theorem items_dkT {j : Nat} {kvs : List (List Key × D)} (h : At s j (.ft kvs)) : Src.items s (.dkeysT j) = some (kvs.map fun (kv : List Key × D) => D.tup (kv.1.map keyD)) := by
  have h : s[j]? = some (.ft kvs) := h
  show (match s[j]? with | some (.ft kvs) => some (kvs.map fun (kv : List Key × D) => D.tup (kv.1.map keyD)) | _ => none) = _
  simp only [h]
end
end G

set_option Elab.async false
set_option linter.all false
set_option maxRecDepth 100000
set_option maxHeartbeats 4000000
/-! G, data level: range(a, b, c) with a written step; rules of a table's `in` -/
namespace G
open PySem L2
/-- range(a, b, c): c is written, above nought -/
def iRngS (a b : CE) (c : Int) : CS' := fun e => bnd (a e) fun x => bnd (b e) fun y => match x, y with
  | .int i, .int j => if -(2 ^ 61) ≤ i ∧ i < 2 ^ 61 ∧ -(2 ^ 61) ≤ j ∧ j < 2 ^ 61 then ret (.rngC i c ((j - i + c - 1) / c).toNat) else noC
  | _, _ => noC
/-- d.get(k) -/
def cGetN (o k : CE) : CE := fun e => bnd (o e) fun x => bnd (chkD x) fun _ => bnd (k e) fun y => dGetD x y .non
section
variable {s : Sto} {N : En → Sto → Prop} {Rt : D → Sto → Prop} {B C : En → Sto → Prop} {E : XP}
@[simp ↓] theorem wp_iRngS {a b : CE} {c : Int} {e : En} {P : Src → Sto → Prop} {u : Lk2 P E} : wp (iRngS a b c e) s P E u = wp (a e) s (fun x t => wp (b e) t (fun y u => onInt x fun i => onInt y fun j => gd (-(2 ^ 61) ≤ i ∧ i < 2 ^ 61 ∧ -(2 ^ 61) ≤ j ∧ j < 2 ^ 61) (P (.rngC i c ((j - i + c - 1) / c).toNat) u)) E) E := by
  unfold iRngS
  rw [wp_bnd]
  refine wp_congr fun c t => ?_
  rw [wp_bnd]
  refine wp_congr fun d u => ?_
  cases c <;> first | rfl | skip
  cases d <;> first | rfl | exact wp_guard
/-- a loop over a range with a step -/
theorem wfor_rc {lo c : Int} {n : Nat} {tg : Tg} {b : CS} {e : En} {s : Sto} {v : Lk5 N Rt B C E} {σ : Type} (L : Nat → σ → List (Option D)) (I : Nat → σ → Sto → Prop) (a0 : σ) (h0 : Sl e (L 0 a0)) (h1 : I 0 a0 s)
    (turn : ∀ i a f t, i < n → I i a t → withT tg (.int (lo + i * c)) (fill (L i a) f 0) fun e' => ws b e' t (fun e2 u => dn (∃ a', Sl e2 (L (i + 1) a') ∧ I (i + 1) a' u)) Rt N (fun e2 u => dn (∃ a', Sl e2 (L (i + 1) a') ∧ I (i + 1) a' u)) E)
    (done : ∀ a f t, I n a t → onE (fill (L n a) f 0) fun e0 => N e0 t) : wfor (.rngC lo c n) tg b e s N Rt B C E v := by
  refine wfor_i ((List.range n).map fun (i : Nat) => D.int (lo + (i : Int) * c)) L I a0 rfl h0 h1 (fun _ _ _ _ => rfl) (fun i x a f t hx h => ?_) (fun a f t h => ?_)
  · have hi : i < n := by
      have := (List.getElem?_eq_some_iff.mp hx).1
      simpa using this
    have : x = .int (lo + i * c) := by
      rw [List.getElem?_map, List.getElem?_range hi] at hx
      exact (Option.some.inj hx).symm
    subst this
    exact turn i a f t hi h
  · rw [List.length_map, List.length_range] at h ⊢
    exact done a f t h
end
section
variable {s : Sto} {Q : D → Sto → Prop} {E : XP} {u : Lk2 Q E}
@[simp ↓] theorem wp_tabIn {neg : Bool} {tbl : List (Str × D)} {z : Str} : wp (tabIn neg tbl (.str z)) s Q E u = Q (.bl (if neg then !(tabV tbl z).isSome else (tabV tbl z).isSome)) s := propext Iff.rfl
/-- d.get(k): None where k is not there -/
@[simp ↓] theorem wp_cGetN {o k : CE} {e : En} : wp (cGetN o k e) s Q E u = wp (o e) s (fun x t => wp (chkD x) t (fun _ u => wp (k e) u (fun y v => wp (dGetD x y .non) v Q E) E) E) E := by
  unfold cGetN
  rw [wp_bnd]
  refine wp_congr fun _ _ => ?_
  rw [wp_bnd]
  refine wp_congr fun _ _ => ?_
  rw [wp_bnd]
end
/-- == of two lists of rows that hold dicts, both alike -/
def dEq4 (x y : D) : Cm D := fun s => if simTL s x y = true then .ok (.bl true) s else .no
theorem r_eq4 {s : Sto} {i j : Nat} {xs ys : List D} {Q : D → Sto → Prop} {E : XP} {u : Lk2 Q E} (hi : At s i (.lst xs)) (hj : At s j (.lst ys)) (h : simL (simD s 8) xs ys = true) (k : Q (.bl true) s) : wp (dEq4 (.box i) (.box j)) s Q E u := by
  have e : simTL s (.box i) (.box j) = true := by simp only [simTL, lAt_at hi, lAt_at hj]; exact h
  unfold wp dEq4
  simp only [e, if_true]
  exact k
end G

set_option Elab.async false
set_option linter.all false
set_option maxRecDepth 100000
set_option maxHeartbeats 4000000
/-! G, data level: calls with defaults -/
namespace G
open PySem L2
/-- a callee given fewer arguments: its defaults fill up -/
def withD (es : List D) (g : List D → Cm D) : List D → Cm D := fun ds => g (ds ++ es)
@[simp ↓] theorem wp_withD1 {s : Sto} {Q : D → Sto → Prop} {E : XP} {u : Lk2 Q E} {es : List D} {g : List D → Cm D} {a : D} : wp (withD es g [a]) s Q E u = wp (g (a :: es)) s Q E := rfl
end G

set_option Elab.async false
set_option linter.all false
set_option maxRecDepth 100000
set_option maxHeartbeats 4000000
/-! G, data level: texts -/
namespace G
open PySem L2
def chkS : D → Cm Unit
  | .str _ => ret ()
  | _ => noC
/-- o.name(a), o a text -/
def cM1 (f : D → D → Cm D) (o a : CE) : CE := fun e => bnd (o e) fun x => bnd (chkS x) fun _ => bnd (a e) fun y => f x y
def cM0 (f : D → Cm D) (o : CE) : CE := fun e => bnd (o e) fun x => bnd (chkS x) fun _ => f x
/-- the texts of a row -/
def rowS (s : Sto) : D → Option (List Str)
  | .tup xs => strsD xs
  | .box j => (match lAt s j with
    | some xs => strsD xs
    | none => none)
  | _ => none
def dJoin (x y : D) : Cm D := match x with
  | .str a => fun s => (match rowS s y with
    | some ys => if (ys.map (·.length)).sum + ys.length * a.length ≤ 16777216 then .ok (.str (Txt.join a ys)) s else .no
    | none => .no)
  | _ => noC
def dSplit (x y : D) : Cm D := match x, y with
  | .str a, .str b => if (b.length == 0) = false ∧ a.length ≤ big then alloc (.lst ((Txt.split a b).map D.str)) else noC
  | _, _ => noC
def dCntS (x y : D) : Cm D := match x, y with
  | .str a, .str b => ret (.int (Txt.count a b))
  | _, _ => noC
def dStarts (x y : D) : Cm D := match x, y with
  | .str a, .str b => ret (.bl (Txt.startswith a b))
  | _, _ => noC
def dPart (x y : D) : Cm D := match x, y with
  | .str a, .str b => if (b.length == 0) = false ∧ a.length ≤ big then ret (.tup [.str (Txt.partition a b).1, .str (Txt.partition a b).2.1, .str (Txt.partition a b).2.2]) else noC
  | _, _ => noC
def dStrip (x : D) : Cm D := match x with
  | .str a => if a.length ≤ big then ret (.str (Txt.strip a)) else noC
  | _ => noC
/-- x.index(y) of texts -/
def dIdxS (x y : D) : Cm D := match x, y with
  | .str a, .str b => (match Builtin.Str.occurrences a b 0 a.length 1 with
    | i :: _ => ret (.int (i : Nat))
    | [] => noC)
  | _, _ => noC
def dSlS (x : D) (lo hi : Option Int) : Cm D := match x with
  | .str z => if z.length ≤ big then ret (.str (cutS z lo hi)) else noC
  | _ => noC
def cSlS (a : CE) (lo hi : CO) : CE := fun e => bnd (a e) fun x => bnd (lo e) fun l => bnd (hi e) fun h => dSlS x l h
/-- one sign in a text -/
def dInS (neg : Bool) (x y : D) : Cm D := match x, y with
  | .str a, .str b => (match a.cps.toList with
    | [c] => ret (.bl (if neg then !decide (c ∈ b.cps.toList) else decide (c ∈ b.cps.toList)))
    | _ => noC)
  | _, _ => noC
/-- x[::-1], x a text -/
def revS (z : Str) : Str := ⟨(z.cps.toList.reverse).toArray⟩
def dRevS (x : D) : Cm D := match x with
  | .str z => if z.length ≤ big then ret (.str (revS z)) else noC
  | _ => noC
/-- reversed(range(n)) -/
def iRevR (a : CE) : CS' := fun e => bnd (a e) fun d => match d with
  | .int j => if -(2 ^ 62) ≤ j ∧ j < 2 ^ 62 then ret (.rngC ((j.toNat : Int) - 1) (-1) j.toNat) else noC
  | _ => noC
section
variable {e : En} {s : Sto} {Q : D → Sto → Prop} {E : XP} {u : Lk2 Q E}
@[simp ↓] theorem wp_iRevR {a : CE} {P : Src → Sto → Prop} {u : Lk2 P E} : wp (iRevR a e) s P E u = wp (a e) s (fun d t => onInt d fun j => gd (-(2 ^ 62) ≤ j ∧ j < 2 ^ 62) (P (.rngC ((j.toNat : Int) - 1) (-1) j.toNat) t)) E := by
  unfold iRevR
  rw [wp_bnd]
  refine wp_congr fun d t => ?_
  cases d <;> first | rfl | exact wp_guard
theorem r_revS {a : Str} (h : a.length ≤ big) (k : Q (.str (revS a)) s) : wp (dRevS (.str a)) s Q E u := by
  unfold wp dRevS
  simp only [if_pos h]
  exact k
@[simp ↓] theorem wp_chkS {z : Str} {P : Unit → Sto → Prop} {v : Lk2 P E} : wp (chkS (.str z)) s P E v = P () s := rfl
@[simp ↓] theorem wp_cM1 {f : D → D → Cm D} {o a : CE} : wp (cM1 f o a e) s Q E u = wp (o e) s (fun x t => wp (chkS x) t (fun _ w => wp (a e) w (fun y v => wp (f x y) v Q E) E) E) E := by
  unfold cM1
  rw [wp_bnd]
  refine wp_congr fun _ _ => ?_
  rw [wp_bnd]
  refine wp_congr fun _ _ => ?_
  rw [wp_bnd]
@[simp ↓] theorem wp_cM0 {f : D → Cm D} {o : CE} : wp (cM0 f o e) s Q E u = wp (o e) s (fun x t => wp (chkS x) t (fun _ w => wp (f x) w Q E) E) E := by
  unfold cM0
  rw [wp_bnd]
  refine wp_congr fun _ _ => ?_
  rw [wp_bnd]
@[simp ↓] theorem wp_cSlS {a : CE} {lo hi : CO} : wp (cSlS a lo hi e) s Q E u = wp (a e) s (fun x t => wp (lo e) t (fun l w => wp (hi e) w (fun h v => wp (dSlS x l h) v Q E) E) E) E := by
  unfold cSlS
  rw [wp_bnd]
  refine wp_congr fun _ _ => ?_
  rw [wp_bnd]
  refine wp_congr fun _ _ => ?_
  rw [wp_bnd]
theorem r_slS {z : Str} {lo hi : Option Int} (h : z.length ≤ big) (k : Q (.str (cutS z lo hi)) s) : wp (dSlS (.str z) lo hi) s Q E u := by
  unfold wp dSlS
  simp only [if_pos h]
  exact k
theorem r_split {a b : Str} (h0 : (b.length == 0) = false) (h : a.length ≤ big) (k : wp (alloc (.lst ((Txt.split a b).map D.str))) s Q E) : wp (dSplit (.str a) (.str b)) s Q E u := by
  have e : dSplit (.str a) (.str b) = alloc (.lst ((Txt.split a b).map D.str)) := by
    show (if (b.length == 0) = false ∧ a.length ≤ big then alloc (.lst ((Txt.split a b).map D.str)) else noC) = _
    rw [if_pos ⟨h0, h⟩]
  rw [e]
  exact k
theorem r_part {a b : Str} (h0 : (b.length == 0) = false) (h : a.length ≤ big) (k : Q (.tup [.str (Txt.partition a b).1, .str (Txt.partition a b).2.1, .str (Txt.partition a b).2.2]) s) : wp (dPart (.str a) (.str b)) s Q E u := by
  unfold wp dPart
  simp only [if_pos (And.intro h0 h)]
  exact k
theorem r_join {a : Str} {y : D} {ys : List Str} (h : rowS s y = some ys) (hl : (ys.map (·.length)).sum + ys.length * a.length ≤ 16777216) (k : Q (.str (Txt.join a ys)) s) : wp (dJoin (.str a) y) s Q E u := by
  unfold wp dJoin
  simp only [h, if_pos hl]
  exact k
@[simp ↓] theorem wp_dCntS {a b : Str} : wp (dCntS (.str a) (.str b)) s Q E u = Q (.int (Txt.count a b)) s := rfl
@[simp ↓] theorem wp_dStarts {a b : Str} : wp (dStarts (.str a) (.str b)) s Q E u = Q (.bl (Txt.startswith a b)) s := rfl
theorem r_idxS {a b : Str} {i : Nat} {r : List Nat} (h : Builtin.Str.occurrences a b 0 a.length 1 = i :: r) (k : Q (.int i) s) : wp (dIdxS (.str a) (.str b)) s Q E u := by
  unfold wp dIdxS
  simp only [h]
  exact k
theorem r_inS {neg : Bool} {a b : Str} {c : Nat} (h : a.cps.toList = [c]) (k : Q (.bl (if neg then !decide (c ∈ b.cps.toList) else decide (c ∈ b.cps.toList))) s) : wp (dInS neg (.str a) (.str b)) s Q E u := by
  unfold wp dInS
  simp only [h]
  exact k
theorem r_strip {a : Str} (h : a.length ≤ big) (k : Q (.str (Txt.strip a)) s) : wp (dStrip (.str a)) s Q E u := by
  unfold wp dStrip
  simp only [if_pos h]
  exact k
end
end G

set_option Elab.async false
set_option linter.all false
set_option maxRecDepth 100000
set_option maxHeartbeats 4000000
/-! G, data level: str(x), int(text), strip(signs), a text k times, insert, replace, f-strings, a list's truths counted, sorted keys, a chosen def called -/
namespace G
open PySem L2
/-- str(x) -/
def bStr : List D → Cm D
  | [.int i] => if i.natAbs.log2 < 1920 then ret (.str (toString i)) else noC
  | [.str z] => ret (.str z)
  | _ => noC
/-- int(text) -/
def bIntS : List D → Cm D
  | [.str z] => (match PySem.intText? z with
    | some n => if z.length ≤ 640 then ret (.int n) else noC
    | none => noC)
  | _ => noC
def dStripC (x y : D) : Cm D := match x, y with
  | .str a, .str b => if a.length ≤ big then ret (.str (Txt.stripChars a b)) else noC
  | _, _ => noC
/-- a text k times -/
def repS (z : Str) (n : Nat) : Str := ⟨(List.replicate n z.cps.toList).flatten.toArray⟩
def dMulS (x y : D) : Cm D := match x, y with
  | .str a, .int k => if -(2 ^ 62) < k ∧ k < 2 ^ 62 ∧ a.length * k.toNat ≤ big then ret (.str (repS a k.toNat)) else noC
  | _, _ => noC
/-- l.insert(i, v) -/
def dIns : D → List D → Cm D
  | .box j, [.int i, v] => fun s => (match lAt s j with
    | some ds => if ds.length < big ∧ 0 ≤ i ∧ i < 2 ^ 62 then .ok .non (s.set j (.lst (ds.take i.toNat ++ [v] ++ ds.drop i.toNat))) else .no
    | none => .no)
  | _, _ => noC
/-- o.replace(y, z), y and z written -/
def dRepl (y z : Str) (x : D) : Cm D := match x with
  | .str a => if a.length + (a.length + 1) * z.length ≤ big then ret (.str (Txt.replace a y z)) else noC
  | _ => noC
/-- the parts of an f-string -/
def fmtD : D → Option Str
  | .str z => some z
  | .int i => if i.natAbs.log2 < 1920 then some (toString i) else none
  | _ => none
def fmtL (s : Str) : List D → Option Str
  | [] => some s
  | d :: ds => match fmtD d with
    | some z => if (s ++ z).length ≤ big then fmtL (s ++ z) ds else none
    | none => none
def cFst (a : CA) : CE := fun e => bnd (a e) fun xs => match fmtL Str.empty xs with
  | some z => ret (.str z)
  | none => noC
/-- l.count(True) of a list of truths -/
def dCntB : D → List D → Cm D
  | .box j, [.bl b] => fun s => (match lAt s j with
    | some xs => if xs.all isBl = true then .ok (.int ((xs.countP fun x => decide (blOf x = b) : Nat) : Int)) s else .no
    | none => .no)
  | _, _ => noC
/-- keys that are pairs of ints, one above the other -/
def pairK : List Key → Option (Int × Int)
  | [.inl i, .inl j] => some (i, j)
  | _ => none
def pairsK : List (List Key × D) → Option (List (Int × Int))
  | [] => some []
  | p :: r => match pairK p.1, pairsK r with
    | some x, some xs => some (x :: xs)
    | _, _ => none
def ltPr (x y : Int × Int) : Bool := decide (x.1 < y.1) || (decide (x.1 = y.1) && decide (x.2 < y.2))
def risesP : List (Int × Int) → Bool
  | [] => true
  | x :: r => r.all (ltPr x) && risesP r
/-- sorted(d), where the keys are in order -/
def bSortT : List D → Cm D
  | [.box j] => fun s => (match s[j]? with
    | some (.dt kvs) => (match pairsK kvs with
      | some ps => if risesP ps = true then alloc (.lst (ps.map fun p => .tup [.int p.1, .int p.2])) s else .no
      | none => .no)
    | _ => .no)
  | _ => noC
/-- a def that an expression gives, called -/
def cCallX (f : CE) (tbl : FT) (a : CA) : CE := fun e => bnd (f e) fun d => match pickF tbl d with
  | some g => bnd (a e) g
  | none => noC
section
variable {e : En} {s : Sto} {Q : D → Sto → Prop} {E : XP} {u : Lk2 Q E}
theorem r_strI {i : Int} (h : i.natAbs.log2 < 1920) (k : Q (.str (toString i)) s) : wp (bStr [.int i]) s Q E u := by
  unfold wp bStr
  simp only [if_pos h]
  exact k
@[simp ↓] theorem wp_bStrS {z : Str} : wp (bStr [.str z]) s Q E u = Q (.str z) s := rfl
theorem r_intS {z : Str} {n : Int} (h : PySem.intText? z = some n) (hl : z.length ≤ 640) (k : Q (.int n) s) : wp (bIntS [.str z]) s Q E u := by
  unfold wp bIntS
  simp only [h, if_pos hl]
  exact k
theorem r_stripC {a b : Str} (h : a.length ≤ big) (k : Q (.str (Txt.stripChars a b)) s) : wp (dStripC (.str a) (.str b)) s Q E u := by
  unfold wp dStripC
  simp only [if_pos h]
  exact k
theorem r_mulS {a : Str} {k : Int} (h : -(2 ^ 62) < k ∧ k < 2 ^ 62 ∧ a.length * k.toNat ≤ big) (q : Q (.str (repS a k.toNat)) s) : wp (dMulS (.str a) (.int k)) s Q E u := by
  unfold wp dMulS
  simp only [if_pos h]
  exact q
theorem r_ins {j : Nat} {ds : List D} {i : Int} {v : D} (h : At s j (.lst ds)) (c : ds.length < big ∧ 0 ≤ i ∧ i < 2 ^ 62) (k : ∀ t, At t j (.lst (ds.take i.toNat ++ [v] ++ ds.drop i.toNat)) → Fr [j] s t → Q .non t) : wp (dIns (.box j) [.int i, v]) s Q E u := by
  unfold wp dIns
  simp only [lAt_at h, if_pos c]
  exact k _ (at_set h) fr_set
theorem r_repl {y z a : Str} (h : a.length + (a.length + 1) * z.length ≤ big) (k : Q (.str (Txt.replace a y z)) s) : wp (dRepl y z (.str a)) s Q E u := by
  unfold wp dRepl
  simp only [if_pos h]
  exact k
def onFmt (o : Option Str) (k : Str → Prop) (_ : Lk1 k := .u) : Prop := match o with
  | some z => k z
  | none => False
@[simp ↓] theorem wp_cFst {a : CA} : wp (cFst a e) s Q E u = wp (a e) s (fun xs t => onFmt (fmtL Str.empty xs) fun z => Q (.str z) t) E := by
  unfold cFst
  rw [wp_bnd]
  refine wp_congr fun xs t => ?_
  unfold onFmt
  cases fmtL Str.empty xs <;> rfl
theorem onFmt_i {o : Option Str} {z : Str} {k : Str → Prop} {u : Lk1 k} (h : o = some z) (q : k z) : onFmt o k u := by
  subst h
  exact q
theorem r_cntB {j : Nat} {xs : List D} {b : Bool} (h : At s j (.lst xs)) (c : xs.all isBl = true) (k : Q (.int ((xs.countP fun x => decide (blOf x = b) : Nat) : Int)) s) : wp (dCntB (.box j) [.bl b]) s Q E u := by
  unfold wp dCntB
  simp only [lAt_at h, if_pos c]
  exact k
theorem r_sortT {j : Nat} {kvs : List (List Key × D)} {ps : List (Int × Int)} (h : At s j (.dt kvs)) (hp : pairsK kvs = some ps) (hr : risesP ps = true) (k : wp (alloc (.lst (ps.map fun p => .tup [.int p.1, .int p.2]))) s Q E) : wp (bSortT [.box j]) s Q E u := by
  have h : s[j]? = some (.dt kvs) := h
  unfold wp bSortT
  simp only [h, hp, if_pos hr]
  exact k
@[simp ↓] theorem wp_cCallX {f : CE} {tbl : FT} {a : CA} : wp (cCallX f tbl a e) s Q E u = wp (f e) s (fun d t => onFn tbl d fun g => wp (a e) t (fun xs w => wp (g xs) w Q E) E) E := by
  unfold cCallX
  rw [wp_bnd]
  refine wp_congr fun d t => ?_
  unfold onFn
  cases pickF tbl d with
  | none => rfl
  | some g => exact wp_bnd
end
section
@[simp ↓] theorem withT_p {i : Nat} {is : List Nat} {x : D} {ds : List D} {e : En} {k : En → Prop} {u : Lk1 k} : withT (.p i is) (.tup [x, .tup ds]) e k u = stK e i (some x) fun e' => stw e' is ds k := propext Iff.rfl
end
end G

set_option Elab.async false
set_option linter.all false
set_option maxRecDepth 100000
set_option maxHeartbeats 4000000
/-! G: != of lists of rows that hold dicts; enumerate (soundness) -/
namespace PySem.SeqAt
open AutoSeq1 (wpAny_loadPart')
open MeetsSeq MeetsSeq2 MeetsSeq3
section
variable {prog : Program} {w : World}
theorem ne_sameLoop (la lb : Addr) (xs ys : Array Value) (nx ny : Nat) (dx dy : Option Addr) (sx sy : Array (Option Value)) (hlen : xs.size = ys.size) (k : Nat) :
    ∀ i : Nat, xs.size - i = k → MeetsIn prog w (Builtin.«list.__eq__.loop» ⟨[.ref la, .ref lb, rawInt i, rawInt 3], []⟩)
      (fun A R s => s.heap.get? la = some { cls := .type "list", dict := dx, data := .seq xs nx, slots := sx } ∧ s.heap.get? lb = some { cls := .type "list", dict := dy, data := .seq ys ny, slots := sy } ∧
        (∀ j (q1 : j < xs.size) (q2 : j < ys.size), EqIn prog w A.in1 s xs[j] ys[j] true) ∧ R (.ok (.ret (.bool false))) s) := by
  induction k with
  | zero =>
    intro i hk A R st h
    obtain ⟨hp, gg, dd, tt, oo⟩ := st
    obtain ⟨ha, hb, he, h⟩ := h
    wp_walk using wpAny_loadPart' ha, wpAny_loadPart' hb
    have z1 : xs[((i : Nat) : Int).toNat]? = none := by simp; omega
    have z2 : ys[((i : Nat) : Int).toNat]? = none := by simp; omega
    rw [z1, z2]
    wp_walk using wpAny_loadPart' ha, wpAny_loadPart' hb
    show R (.ok (.ret (.bool (xs.size != ys.size)))) _
    rw [hlen]
    simpa using h
  | succ k ih =>
    intro i hk A R st h
    obtain ⟨hp, gg, dd, tt, oo⟩ := st
    obtain ⟨ha, hb, he, h⟩ := h
    wp_walk using wpAny_loadPart' ha, wpAny_loadPart' hb
    have l1 : i < xs.size := by omega
    have l2 : i < ys.size := by omega
    have z1 : xs[((i : Nat) : Int).toNat]? = some xs[i] := by simp [l1]
    have z2 : ys[((i : Nat) : Int).toNat]? = some ys[i] := by simp [l2]
    have zc : ((i : Int) + 1) = ((i + 1 : Nat) : Int) := by push_cast; rfl
    rw [z1, z2]
    refine wpAny_bind (he i l1 l2 _ _ ?_)
    wp_walk
    rw [zc]
    exact ⟨plainId_quiet plain_eq_loop _, codeAny_builtin entry_eq_loop (by
      rw [Around.under_plainId plain_eq_loop _]
      exact ih (i + 1) (by omega) A R _ ⟨ha, hb, he, h⟩)⟩
theorem list_ne_same (la lb : Addr) (xs ys : Array Value) (nx ny : Nat) (dx dy : Option Addr) (sx sy : Array (Option Value)) (hlen : xs.size = ys.size) :
    MeetsIn prog w (Builtin.«list.__ne__» ⟨[.ref la, .ref lb], []⟩)
      (fun A R s => s.heap.get? la = some { cls := .type "list", dict := dx, data := .seq xs nx, slots := sx } ∧ s.heap.get? lb = some { cls := .type "list", dict := dy, data := .seq ys ny, slots := sy } ∧
        (∀ j (q1 : j < xs.size) (q2 : j < ys.size), EqIn prog w A.in1 s xs[j] ys[j] true) ∧ R (.ok (.ret (.bool false))) s) := by
  intro A R st h
  obtain ⟨hp, gg, dd, tt, oo⟩ := st
  obtain ⟨ha, hb, he, h⟩ := h
  have f3 := AutoSeq1.sub_list_list
  have nn : ¬ (xs.size != ys.size) = true := by simp [hlen]
  wp_walk using wpAny_loadPart' ha, wpAny_loadPart' hb
  exact ⟨plainId_quiet plain_eq_loop _, codeAny_builtin entry_eq_loop (by
    rw [Around.under_plainId plain_eq_loop _]
    exact ne_sameLoop la lb xs ys nx ny dx dy sx sy hlen _ 0 rfl A R _ ⟨ha, hb, he, h⟩)⟩
variable {A : Around} {E : Value → Shared → Prop} {s : Shared}
theorem ne_lists_same {la lb : Addr} {xs ys : Array Value} {Q : Value → Shared → Prop} (ha : s.heap.IsList la xs) (hb : s.heap.IsList lb ys) (hlen : xs.size = ys.size) (hu : A.units < cLine)
    (he : ∀ j (q1 : j < xs.size) (q2 : j < ys.size), EqIn prog w A.in1 s xs[j] ys[j] true) (h : Q (.bool false) s) : wpAny (model prog w) A (richCompare .NotEq (.ref la) (.ref lb)) Q E s := by
  obtain ⟨⟨c1, d1, t1, l1⟩, o1, k1, n1, e1⟩ := id ha
  obtain ⟨⟨c2, d2, t2, l2⟩, o2, k2, n2, e2⟩ := id hb
  simp only at k1 e1 k2 e2
  subst k1 e1 k2 e2
  exact wpAny_richCompare_same_room (T := "list") (op := .NotEq) ⟨_, o1, rfl⟩ ⟨_, o2, rfl⟩ F.slot_list_ne (call_meetsIn F.slot_list_ne ⟨_, o1, rfl⟩ F.entry_list_ne (F.args_list_ne_2 _ _) (list_ne_same la lb xs ys n1 n2 d1 d2 l1 l2 hlen)
    ⟨o1, o2, he, show Value.bool false ≠ Value.notImplemented ∧ Q (.bool false) s from ⟨(fun x => nomatch x), h⟩⟩) hu
end
end PySem.SeqAt
namespace G
open PySem L2 PySem.Spec PyProof.Rows
open PySem.SeqAt (EqIn EqAt)
section
variable {X : Cx} {cl : Str → Addr}
def rNeL (K : PySem.W.Frag) : R2 := fun x y H Q => ∃ a b xs ys, x = .ref a ∧ y = .ref b ∧ SqL K H a xs ∧ SqL K H b ys ∧ xs.length = ys.length ∧ (∀ (i : Nat) v w, xs[i]? = some v → ys[i]? = some w → Sim K H 8 v w) ∧ Q (.bl false) H
theorem op_neL (hu : X.A.units + 64 < cLine) : OpR X (compareOp .NotEq) (rNeL X.K) := by
  intro pins s σ H x y v u Q I rx ry h
  obtain ⟨a, b, xs, ys, rfl, rfl, h1, h2, hl, hp, q⟩ := h
  obtain rfl : v = Value.ref a := rx
  obtain rfl : u = Value.ref b := ry
  obtain ⟨i1, v1, ⟨o1, n1, ho1, hc1, _, hd1⟩, _⟩ := I.list h1
  obtain ⟨i2, v2, ⟨o2, n2, ho2, hc2, _, hd2⟩, _⟩ := I.list h2
  refine SeqAt.ne_lists_same (xs := i1.toArray) (ys := i2.toArray) ⟨o1, ho1, hc1, n1, hd1⟩ ⟨o2, ho2, hc2, n2, hd2⟩ (by simpa using (show i1.length = i2.length by rw [← v1.length, ← v2.length, hl])) (by omega) (fun j j1 j2 => ?_) ⟨.bl false, H, I, rfl, q⟩
  obtain ⟨x, x1, x2⟩ := vals_at v1 (j := j) (by simpa using j1)
  obtain ⟨y, y1, y2⟩ := vals_at v2 (j := j) (by simpa using j2)
  exact sim_in I (hp j x y x1 y1) _ _ _ (by show X.A.units + 1 + 8 < cLine; omega) (by simpa using x2) (by simpa using y2)
theorem og_ne4 (hu : X.A.units + 64 < cLine) : OpG X cl (compareOp .NotEq) dNe4 := by
  refine ⟨_, op_neL hu, ?_⟩
  intro W bs s H x y v w Q S r1 r2 h
  by_cases c : simTL s x y = true
  · have q := Run.of_ok h (a := .bl false) (t := s) (by unfold dNe4; rw [if_pos c]) bs H (Gr.refl _ _) S _ (.bl _)
    cases x with
    | box i =>
      cases y with
      | box j =>
        cases e1 : lAt s i with
        | none => simp [simTL, e1] at c
        | some xs =>
          cases e2 : lAt s j with
          | none => simp [simTL, e1, e2] at c
          | some ys =>
            have c : simL (simD s 8) xs ys = true := by simpa [simTL, e1, e2] using c
            obtain ⟨p, vs, rfl, _, a2, a3⟩ := S.lst e1 r1
            obtain ⟨p', ws, rfl, _, b2, b3⟩ := S.lst e2 r2
            obtain ⟨e, g⟩ := simL_ok (T := Sim X.K H 8) (fun x y v w e p q => simD_ok S 8 x y v w e p q) c a3 b3
            exact ⟨_, _, _, _, rfl, rfl, SqL.of a2, SqL.of b2, e, g, q⟩
      | _ => simp [simTL] at c
    | _ => simp [simTL] at c
  · exact (Run.of_no h (by unfold dNe4; rw [if_neg c])).elim
end
end G

set_option Elab.async false
set_option linter.all false
set_option maxRecDepth 100000
set_option maxHeartbeats 4000000
/-! G: enumerate of a list, a tuple, a text (soundness) -/
namespace G
open PySem L2 PySem.Spec PyProof.Rows
theorem meets_enum1 {v : Value} {ob : Obj} {HH : Heap → Prop} (B : Begins v ob HH) :
    Meets (Builtin.«enumerate.__new__» ⟨[.type "enumerate", v], []⟩) (fun _ R s => HH s.heap ∧
      R (.ok (.ret (.ref (s.heap.push ob).objs.size))) { s with heap := (s.heap.push ob).push { cls := .type "enumerate", data := .fields #[.none, .bool false, .ref s.heap.objs.size, rawInt 0, .none, .none] } }) :=
  .of_wp fun prog w A R st h => by
    obtain ⟨hp, gg, dd, tt, oo⟩ := st
    obtain ⟨h1, h⟩ := h
    have hsub := sub_enumerate
    have q1 : ∀ {A' : Around} {E : Value → Shared → Prop} {Q : Value → Shared → Prop}, Q (.ref hp.objs.size) ⟨hp.push ob, gg, dd, tt, oo⟩ → wpAny (model prog w) A' (pyIter v) Q E ⟨hp, gg, dd, tt, oo⟩ :=
      fun q => B.iter prog w _ _ ⟨hp, gg, dd, tt, oo⟩ _ h1 q
    wp_walk using q1
    refine wpAny_stack_any fun st => wpAny_pure ?_
    split
    · rename_i c _ _ _ _ _
      cases (c == Value.type "enumerate")
      · wp_walk using q1
        exact ⟨_, rfl, h⟩
      · wp_walk using q1
        exact ⟨_, rfl, h⟩
    · wp_walk using q1
      exact ⟨_, rfl, h⟩
theorem enum_begins1 {prog : Program} {w : World} {A : Around} {E : Value → Shared → Prop} {s : Shared} {v : Value} {ob : Obj} {HH : Heap → Prop} {Q : Value → Shared → Prop} (B : Begins v ob HH) (h1 : HH s.heap)
    (h : ∀ h', IsEnum h' (s.heap.objs.size + 1) s.heap.objs.size 0 .none → h'.get? s.heap.objs.size = some ob → h'.objs.size = s.heap.objs.size + 2 →
      (∀ b o, s.heap.get? b = some o → h'.get? b = some o) → Q (.ref (s.heap.objs.size + 1)) { s with heap := h' }) :
    wpAny (model prog w) A (call (.type "enumerate") [v]) Q E s := by
  refine callType_new F.called_enumerate (by decide) (F.typeCall_enumerate_1 _) (F.newCall_enumerate_1 _) (fun obj => F.args_object_init_2 obj _) F.entry_enumerate_new (meets_enum1 B) ⟨h1, ?_⟩
  have hz : (s.heap.push ob).objs.size = s.heap.objs.size + 1 := Heap.size_push ..
  show _ ∧ _
  rw [hz]
  have he : IsEnum ((s.heap.push ob).push { cls := .type "enumerate", data := .fields #[.none, .bool false, .ref s.heap.objs.size, rawInt 0, .none, .none] }) (s.heap.objs.size + 1) s.heap.objs.size 0 .none := by
    have := Heap.get?_push_size (s.heap.push ob) (o := { cls := .type "enumerate", data := .fields #[.none, .bool false, .ref s.heap.objs.size, rawInt 0, .none, .none] }) rfl
    rw [hz] at this
    exact this
  exact ⟨⟨_, he, rfl⟩, h _ he (Heap.get?_push_of_some _ (Heap.get?_push_size _ B.free)) (by rw [Heap.size_push, hz]) fun b o x => Heap.get?_push_of_some _ (Heap.get?_push_of_some _ x)⟩
/-- pairs of a count and an item, as they come -/
def ItE (K : PySem.W.Frag) (k : SrcK) (k0 : Int) : It :=
  ⟨fun i H => ∃ xs : List V, k.rows K H xs ∧ i < xs.length,
    fun i H v H' => ∃ T x, v = .ref T ∧ H T = none ∧ H' = upd H T (.tup [.int (k0 + (i : Int)), x]) ∧ ∀ xs, k.rows K H xs → xs[i]? = some x,
    fun i H => ∃ xs : List V, k.rows K H xs ∧ i = xs.length⟩
theorem turnE {P : Program} {w : World} {K : PySem.W.Frag} {elts : List Expr} {kk : Nat} {tpos : Pos} {k : SrcK} {k0 : Int} {e it : Addr} (ne : e ≠ it) (ef : e ∉ k.fp) (n1 : it ∉ k.fp) :
    Turn P w K (.Tuple elts kk tpos) (ItE K k k0) [e, it] e (fun i h => (∃ old, IsEnum h e it (k0 + (i : Int)) old) ∧ k.st it i h) where
  mem := by simp
  obj := fun i h ⟨⟨old, he⟩, q1⟩ c hc => by
    simp only [List.mem_cons, List.not_mem_nil, or_false] at hc
    rcases hc with rfl | rfl
    · exact ⟨_, he, nofun⟩
    · exact SrcK.obj q1
  keep := fun i h h' ⟨⟨old, he⟩, q1⟩ z => ⟨⟨old, z e (by simp) _ he⟩, SrcK.keep q1 (z it (by simp))⟩
  item := by
    intro X e1 e2 e3 hc i pins s σ H E I hf st ⟨xs, r1, l1⟩
    subst e1 e2 e3
    have st' := st
    obtain ⟨⟨old, he⟩, q1⟩ := st
    have hd : X.A.in1.handled = none := I.ok.hd hc
    obtain ⟨P1, S1, D1, a1, b1, c1⟩ := SrcK.draws I hd n1 r1
    have W := GoesN.enumFrom (elts := elts) (x1 := kk) (pos := tpos) k0 D1 e ne (by simp only [List.mem_cons, not_or]; exact ⟨ne, ef⟩) (by simp)
    refine W.goes i s _ E l1 ⟨⟨old, he⟩, a1 i q1⟩ fun v h' tk ⟨T, t, x, ev, hT, p1, hq⟩ ⟨⟨old', he'⟩, s1⟩ hk _ => ?_
    obtain ⟨vx, ex, rx⟩ := c1 i x p1
    subst ev
    have new : ObjOk X.prog X.w (upd H T (.tup [.int (k0 + (i : Int)), vx])) h' T (.tup [.int (k0 + (i : Int)), vx]) := ⟨by show 2 ≤ sizeLine; rw [sizeLine_eq]; decide, [.int (k0 + (i : Int)) t, x], .cons ⟨t, rfl⟩ (.cons rx .nil), hq⟩
    have I1 := I.turnedNew (t' := tk) (ch := [e, it]) (fun b o hb z => hk b o hb z) hf hT new
    refine ⟨.ref T, _, I1, rfl, ⟨T, vx, rfl, I.hok.fresh hT, rfl, fun l hl => by rw [SrcK.inj I hl r1]; exact ex⟩, ⟨⟨old', he'⟩, b1 _ _ s1⟩, fun c hm => ?_⟩
    have ne : c ≠ T := by
      have lt : c < s.heap.objs.size := by
        simp only [List.mem_cons, List.not_mem_nil, or_false] at hm
        rcases hm with rfl | rfl
        · exact Heap.lt_size he
        · obtain ⟨_, z, _⟩ := SrcK.obj q1; exact Heap.lt_size z
      exact Nat.ne_of_lt (Nat.lt_of_lt_of_le lt hT)
    rw [upd_ne ne]
    exact (hf c hm).1
  done := by
    intro X e1 e2 e3 hc i pins s σ H E I hf st ⟨xs, r1, hi⟩
    subst e1 e2 e3 hi
    obtain ⟨⟨old, he⟩, q1⟩ := st
    have hd : X.A.in1.handled = none := I.ok.hd hc
    obtain ⟨P1, S1, D1, a1, b1, c1⟩ := SrcK.draws I hd n1 r1
    have W := GoesN.enumFrom (elts := elts) (x1 := kk) (pos := tpos) k0 D1 e ne (by simp only [List.mem_cons, not_or]; exact ⟨ne, ef⟩) (by simp)
    exact W.stops s _ E ⟨⟨old, he⟩, a1 _ q1⟩ fun h' tk hk _ => I.turnedL (t' := tk) (ch := [e, it]) (fun b o hb z => hk b o hb z) hf
  self := fun A i s Q E st h => let ⟨⟨_, he⟩, _⟩ := st; wpAny_pyIter_enum he h
def iEnumG (K : PySem.W.Frag) (k0 : Int) (ta : TA) : TI := fun σ H R => ta σ H fun vs H1 => ∃ v k xs, vs = [v] ∧ SrcF K H1 v k ∧ (∀ t, (k t).rows K H1 xs) ∧ ∀ t, R (ItE K (k t) k0) H1
theorem pi_enumG {X : Cx} {e : Expr} {ta : TA} {p pos tpos : Pos} {elts : List Expr} {kk : Nat} (hg : Gl X "enumerate") (hm : X.mg "enumerate" = none) (ha : PA X [e] ta)
    (hs : starEach [e] X.env = [(false, eval e X.env)] := by rfl) :
    PI X (.Tuple elts kk tpos) (.Call (.Name "enumerate" p) [e] [] pos) (iEnumG X.K 0 ta) := by
  refine ⟨fun pins s σ H R I h => ?_⟩
  refine Call_ (ld_blt I hg hm boot_enumerate (callWith_type1 (thn (ha.run pos pins s σ H _ I h) fun us s1 ⟨vs, H1, I1, r1, q1⟩ => ?_) hs rfl))
  obtain ⟨v1, k1, xs, rfl, f1, w1, hR⟩ := q1
  cases r1 with
  | cons r rr =>
  cases rr
  obtain ⟨t1, rfl⟩ := f1.val r
  obtain ⟨o1, G1, B1, g1, z1⟩ := SrcK.begins I1 (w1 t1)
  have lo1 := SrcK.low I1 (w1 t1)
  refine enum_begins1 B1 g1 fun h' he h1 hsz hk => wpAny_pyIter_enum he ?_
  have I2 : Inv X pins σ H1 { s1 with heap := h' } := I1.kept (t' := s1.toks) hk
  refine ⟨s1.heap.objs.size + 1, [s1.heap.objs.size + 1, s1.heap.objs.size], _, _, H1, rfl, I2, turnE (k0 := 0) (Nat.succ_ne_self _) (fun q => Nat.lt_irrefl _ (Nat.lt_of_succ_lt (lo1 _ q))) (fun q => Nat.lt_irrefl _ (lo1 _ q)), ⟨⟨.none, he⟩, z1 _ _ h1⟩, fun c hc => ?_, hR t1⟩
  have hle : s1.heap.objs.size ≤ c := by
    simp only [List.mem_cons, List.not_mem_nil, or_false] at hc
    rcases hc with rfl | rfl
    · exact Nat.le_add_right _ 1
    · exact Nat.le_refl _
  exact I1.fpOk hle (I1.hok.fresh hle)
theorem i_enum {X : Cx} {cl : Str → Addr} {W : WX} {a : Expr} {ca : CE} {p pos tpos : Pos} {elts : List Expr} {kk : Nat} (hg : Gl X "enumerate") (hm : X.mg "enumerate" = none) (ha : SE X cl W a ca)
    (h1 : starEach [a] X.env = (false, eval a X.env) :: starEach [] X.env := by rfl) :
    SI X cl W (.Tuple elts kk tpos) (.Call (.Name "enumerate" p) [a] [] pos) (iEnum 0 ca) := by
  refine PI.imp (pi_enumG hg hm (pa_cons ha pa_nil h1) h1) fun σ H R ⟨bs, s, e, S, N, h⟩ => ?_
  refine ⟨bs, s, e, S, N, (Run.bnd h).imp fun x b1 t1 H1 g1 S1 k1 v r1 => ?_⟩
  cases q1 : rowOf t1 x with
  | none => exact (Run.of_no k1 (by simp only [q1])).elim
  | some xs =>
  have fin := Run.of_ok k1 (a := .enum 0 x) (t := t1) (by simp only [q1]) b1 H1 (Gr.refl _ _) S1
  obtain ⟨f1, sf1, m1⟩ := kindOf S1 r1 q1
  obtain ⟨vs, w1, _⟩ := m1 b1 t1 H1 xs (Gr.refl _ _) S1 q1
  refine ⟨v, f1, vs, rfl, sf1, w1, fun tk => fin _ ?_⟩
  intro bs s H all g S q i
  have q : (match rowOf s x with | some xs => some (enumD 0 xs) | none => none) = some all := q
  cases z1 : rowOf s x with
  | none => rw [z1] at q; cases q
  | some xs2 =>
  rw [z1] at q
  cases q
  obtain ⟨vs2, y1, y2⟩ := m1 bs s H xs2 g S z1
  rw [enumD_len]
  have l1 := y2.length
  refine ⟨fun hi => ⟨⟨vs2, y1 _, by omega⟩, fun X' H' yy => ?_⟩, fun hi => ⟨vs2, y1 _, by omega⟩⟩
  obtain ⟨T, xv, rfl, hT, rfl, e1⟩ := yy
  obtain ⟨dx, o1, o2⟩ := y2.get' (e1 _ (y1 _))
  exact ⟨gr_new hT, S.new hT, _, enumD_get o1, Rp.newT S hT (.cons (.int _) (.cons o2 .nil))⟩
end G

set_option Elab.async false
set_option linter.all false
set_option maxRecDepth 100000
set_option maxHeartbeats 4000000
/-! G, soundness: defs that raise, raise, try .. except C. -/
namespace G
open PySem L2 PySem.Spec PyProof.Rows
/-! ### the world of the defs that raise -/
abbrev wr (P : Program) (w : World) (K : PySem.W.Frag) (mg : Str → Option Value) (base : Heap) (cl : Str → Addr) : Wd := ⟨P, w, K, mg, base, L2.CX P w, cl, fun E => E⟩
/-- what such a def wishes of an exception that it lets out -/
abbrev WR (E : XK) : WX := fun u d _ H => E u d H
theorem Is.letsR {X : Cx} {P : Program} {w : World} {K : PySem.W.Frag} {mg : Str → Option Value} {base : Heap} {cl : Str → Addr} {W : WX} (i : Is X P w K mg base) (tk : Takes X W) : Lets (wr P w K mg base cl) X W := by
  obtain ⟨e1, e2, e3, e4, e5⟩ := i
  subst e1 e2 e3 e4 e5
  exact ⟨rfl, rfl, rfl, rfl, rfl, fun σ => passAt tk σ, fun _ _ _ _ h => h⟩
section
variable {X : Cx} {cl : Str → Addr} {P : Program} {w : World} {K : PySem.W.Frag} {mg : Str → Option Value} {base : Heap} {k n : Nat} {g : List D → Cm D} {x : Str} {e0 : Expr} {es : List Expr} {aa : CA} {p pos : Pos} {W : WX}
theorem noX_run {α : Type} {bs : List Addr} {s : Sto} {H : Hp} {m : Cm α} {F : Value → Option Addr → Hp → Prop} {Q : α → List Addr → Sto → Hp → Prop} (h : Run K cl F bs s H (noX m) Q) : Run K cl F0 bs s H m Q := by
  unfold Run noX at *
  cases q : m s with
  | ok a t => rw [q] at h; exact h
  | ex c fs t => rw [q] at h; exact h.elim
  | no => rw [q] at h; exact h
theorem y_call (d : Df (wz P w K mg base cl) x k n g) (i : Is X P w K mg base) (hr : Room k X.A) (hg : Gl X x) (ha : SA X cl W (e0 :: es) aa) (hdb : (x == ("__debug__" : Str)) = false := by decide)
    (he : starEach (e0 :: es) X.env = (false, eval e0 X.env) :: starEach es X.env := by rfl) (hpl : (backTo pos (starEach es X.env)).any (·.1) = false := by rfl) : SE X cl W (.Call (.Name x p) (e0 :: es) [] pos) (cCalm g aa) := by
  obtain ⟨e1, e2, e3, e4, e5⟩ := i
  subst e1 e2 e3 e4 e5
  obtain ⟨f, fd, ps, hm, hk, hb, hl, F⟩ := d.ex
  refine PE.imp (pe_callSD (E := fun _ _ _ _ => False) F hr hg hm hk hb .nil (fun _ _ _ _ _ _ _ h => h.elim) ha hdb he hpl) fun σ H Q ⟨bs, s, e, S, N, h⟩ => ?_
  refine ⟨bs, s, e, S, N, (Run.bnd h).imp fun ds b1 t1 H1 g1 S1 h1 vs r1 => ?_⟩
  show spOf _ _ _ n g (vs ++ []) H1 Q _
  rw [List.append_nil]
  by_cases hlen : ds.length = n
  · exact ⟨b1, t1, ds, hlen, S1, r1, noX_run h1⟩
  · exact (Run.of_no (noX_run h1) (d.ar ds hlen t1)).elim
theorem y_call0 (d : Df (wz P w K mg base cl) x k 0 g) (i : Is X P w K mg base) (hr : Room k X.A) (hg : Gl X x) (hdb : (x == ("__debug__" : Str)) = false := by decide) : SE X cl W (.Call (.Name x p) [] [] pos) (cCalm g aNil) := by
  obtain ⟨e1, e2, e3, e4, e5⟩ := i
  subst e1 e2 e3 e4 e5
  obtain ⟨f, fd, ps, hm, hk, hb, hl, F⟩ := d.ex
  refine ⟨fun pins s σ H Q I ⟨bs, t, e, S, N, h⟩ => ?_⟩
  refine wpAny_Call_Name_kw (ld_glob I hg hm ?_ hdb)
  refine PySem.W.callWith_K0 I.kIn hk (run_fnSD (E := fun _ _ _ _ => False) (us := []) (vs := []) F hr hb .nil (fun _ _ _ _ _ _ h => h.elim) I .nil ?_)
  have h1 := Run.bnd h
  exact ⟨bs, t, [], rfl, S, .nil, noX_run (Run.now S h1)⟩
theorem r_call (d : Df (wr P w K mg base cl) x k n g) (i : Is X P w K mg base) (tk : Takes X W) (hr : Room k X.A) (hg : Gl X x) (ha : SA X cl W (e0 :: es) aa) (hdb : (x == ("__debug__" : Str)) = false := by decide)
    (he : starEach (e0 :: es) X.env = (false, eval e0 X.env) :: starEach es X.env := by rfl) (hpl : (backTo pos (starEach es X.env)).any (·.1) = false := by rfl) : SE X cl W (.Call (.Name x p) (e0 :: es) [] pos) (cCall g aa) := s_call d (i.letsR tk) hr hg ha hdb he hpl
end
theorem fn_mkR {P : Program} {w : World} {K : PySem.W.Frag} {mg : Str → Option Value} {base : Heap} {cl : Str → Addr} {x qual : Str} {st : Stmt} {f : Addr} {fd : FuncData} {N ps : List Str} {k n m : Nat} {c : CS} (F : Fun K x qual st f fd) (S : FnScope N ps (defScope st))
    (hn : ps.length = n) (hN : N.length = m)
    (body : ∀ (cdv : Value) (A : Around) (outer : List PySem.Env) (s : Shared) (H : Hp) (E : XK), Room k (A.deeper (envOfC qual (defScope st) s.heap.objs.size f cdv)) →
      SSs (cxOf (L2.CX P w) P w K mg base N qual (defScope st) f cdv A outer s H E) cl (WR E) (defBody st) c) : FnOk P w K mg base (L2.CX P w) (k + 1) f fd ps (spOf K cl (fun E => E) n (dfr n m c)) := by
  refine F.okX S (fun vs H Q E h => by rw [spOf_len h, hn]) fun cdv A outer s H vs Q E hr h => ?_
  refine ⟨_, body cdv A outer s H E hr, ?_⟩
  obtain ⟨bs, t, ds, h1, S1, r1, h2⟩ := h
  have e : dfr n m c ds = bnd (noX (c (ds.map some ++ List.replicate (m - n) none))) (fun fl => match fl with
      | .nx _ => ret .non
      | .rt d => ret d
      | .ex c fs _ => fun s => .ex c fs s
      | .bk _ => noC
      | .ct _ => noC) := by
    unfold dfr
    rw [if_pos h1]
    all_goals rfl
  rw [e] at h2
  have h3 : Run K cl F0 bs t H (c (ds.map some ++ List.replicate (m - n) none)) (fun fl b1 t1 H1 => Run K cl E b1 t1 H1 ((fun fl => match fl with
      | .nx _ => ret .non
      | .rt d => ret d
      | .ex c fs _ => fun s => .ex c fs s
      | .bk _ => noC
      | .ct _ => noC : Fl → Cm D) fl) (fun d bs' _ H' => ∀ v, Rp K cl bs' H' d v → Q v H')) := by
    have h3 := Run.bnd h2
    unfold Run at h3 ⊢
    unfold noX at h3
    cases q : c (ds.map some ++ List.replicate (m - n) none) t with
    | ok a t => rw [q] at h3; exact h3
    | ex cc fs t => rw [q] at h3; exact h3.elim
    | no => rw [q] at h3; exact h3
  refine ⟨bs, t, _, S1, ⟨?_, fun i d q => ?_⟩, h3.imp fun fl b1 t1 H1 g1 S2 k1 => ?_⟩
  · unfold L2.start
    simp only [List.length_append, List.length_map, List.length_replicate]
    rw [r1.length, hN, ← h1, r1.length]
  · unfold L2.start
    by_cases hi : i < ds.length
    · rw [List.getElem?_append_left (by simpa using hi), List.getElem?_map] at q
      cases e1 : ds[i]? with
      | none => rw [e1] at q; cases q
      | some d' =>
        rw [e1] at q
        obtain ⟨v, hv, rv⟩ := r1.get e1
        cases q
        exact ⟨v, by rw [List.getElem?_append_left (by rw [List.length_map, ← r1.length]; exact hi), List.getElem?_map, hv]; rfl, rv⟩
    · rw [List.getElem?_append_right (by simpa using hi)] at q
      have := List.mem_of_getElem? q
      rw [List.mem_replicate] at this
      cases this.2
  · cases fl with
    | nx e' => exact fun σ' N' => Run.now S2 k1 _ .non
    | rt d => exact fun v r => Run.now S2 k1 _ r
    | bk e' => exact (Run.of_no k1 rfl).elim
    | ct e' => exact (Run.of_no k1 rfl).elim
    | ex cn fs e' => exact fun σ' u dx N' X1 => (show Run K cl E b1 t1 H1 (fun s => .ex cn fs s) _ from k1) b1 H1 u dx (Gr.refl _ _) S2 X1
theorem df_mkR {P : Program} {w : World} {K : PySem.W.Frag} {mg : Str → Option Value} {base : Heap} {cl : Str → Addr} {x qual : Str} {st : Stmt} {f : Addr} {fd : FuncData} {N ps : List Str} {k n m : Nat} {c : CS} (F : Fun K x qual st f fd) (S : FnScope N ps (defScope st)) (hm : mg x = some (.ref f)) (hb : Binds K fd ps [])
    (hn : ps.length = n) (hN : N.length = m)
    (body : ∀ (cdv : Value) (A : Around) (outer : List PySem.Env) (s : Shared) (H : Hp) (E : XK), Room k (A.deeper (envOfC qual (defScope st) s.heap.objs.size f cdv)) →
      SSs (cxOf (L2.CX P w) P w K mg base N qual (defScope st) f cdv A outer s H E) cl (WR E) (defBody st) c) : Df (wr P w K mg base cl) x (k + 1) n (dfr n m c) :=
  ⟨fun ds h s => by unfold dfr; rw [if_neg h]; rfl, f, fd, ps, hm, F.kp, hb, hn, fn_mkR F S hn hN body⟩

/-! ### C(e, ..): C an own class, its __init__ keeps its arguments as fields -/
/-- what such an __init__ does -/
def spI (C : Addr) (fns : List Str) : Sp := fun vs H Q E => ∃ (a : Addr) (ws : List V), vs = .ref a :: ws ∧ ws.length = fns.length ∧ H a = some (exo a C none) ∧
  ∀ (dx : Addr) (H' : Hp), H dx = none → dx ≠ a → H' a = some (exo a C (some dx)) → H' dx = some (exd dx (fns.zip ws).reverse) → (∀ b, b ≠ a → b ≠ dx → H' b = H b) → Q .non H'
/-- the own class c, raised: its __init__ keeps the fields fns -/
structure Rz (K : PySem.W.Frag) (mg : Str → Option Value) (P : Program) (w : World) (base : Heap) (cl : Str → Addr) (c : Str) (k : Nat) (fns : List Str) : Prop where
  T : OexC K (cl c)
  m : mg c = some (.ref (cl c))
  ex : ∃ fI fd ps, PySem.W.findIn K (.ref (cl c)) "__init__" = some (some (.ref fI)) ∧ PySem.W.typeIn K (.ref fI) = some (.type "function") ∧ Binds K fd ps [] ∧ FnOk P w K mg base CX0 k fI fd ps (spI (cl c) fns)
theorem zip_fs {K : PySem.W.Frag} {bs : List Addr} {H : Hp} : ∀ {fns : List Str} {ds : List D} {vs : List V}, RpL K cl bs H ds vs → FsR K cl bs H (fns.zip ds) (fns.zip vs)
  | [], _, _, _ => .nil
  | f :: fns, _, _, .nil => .nil
  | f :: fns, _, _, .cons r rs => .cons ⟨rfl, r⟩ (zip_fs rs)
theorem fs_app {K : PySem.W.Frag} {bs : List Addr} {H : Hp} : ∀ {a : List (Str × D)} {b : List (Str × V)} {a' : List (Str × D)} {b' : List (Str × V)}, FsR K cl bs H a b → FsR K cl bs H a' b' → FsR K cl bs H (a ++ a') (b ++ b')
  | _, _, _, _, .nil, h => h
  | _, _, _, _, .cons r t, h => .cons r (fs_app t h)
theorem fs_rev {K : PySem.W.Frag} {bs : List Addr} {H : Hp} : ∀ {a : List (Str × D)} {b : List (Str × V)}, FsR K cl bs H a b → FsR K cl bs H a.reverse b.reverse
  | _, _, .nil => .nil
  | _, _, .cons r t => by
    rw [List.reverse_cons, List.reverse_cons]
    exact fs_app (fs_rev t) (.cons r .nil)
theorem ss_raise {X : Cx} {cl : Str → Addr} {W : WX} {c : Str} {k : Nat} {fns : List Str} {e : Expr} {es : List Expr} {aa : CA} {p cpos pos : Pos} (R : Rz X.K X.mg X.prog X.w X.base cl c k fns) (hc : X.calm = true) (tk : Takes X W) (hr : Room (k + 1) X.A) (hg : Gl X c) (hl : fns.length ≤ 1000) (ha : SA X cl W (e :: es) aa)
    (hne : fns ≠ [] := by exact List.cons_ne_nil _ _)     (hdb : (c == ("__debug__" : Str)) = false := by decide) (he : starEach (e :: es) X.env = (false, eval e X.env) :: starEach es X.env := by rfl) (hpl : (backTo cpos (starEach es X.env)).any (·.1) = false := by rfl) :
    SS X cl W (.Raise (some (.Call (.Name c p) (e :: es) [] cpos)) none pos) (sRaise c fns aa) := by
  obtain ⟨fI, fd, ps, h1, h2, h3, h4⟩ := R.ex
  refine PS.imp (ps_raise hc tk (pmk_oex (ds := []) (dvs := []) R.T h1 h2 h4 hr h3 .nil (fun _ _ _ _ _ _ _ h => h.elim) hg R.m ha hdb he hpl)) fun D σ H ⟨bs, s, e, S, N, h⟩ => ?_
  refine ⟨bs, s, e, S, N, (Run.lft N h).imp fun ds b1 t1 H1 g1 S1 k1 vs r1 => ?_⟩
  have k1 : Run X.K cl F0 b1 t1 H1 (fun s => if ds.length = fns.length then .ok (.ex c (fns.zip ds).reverse e) s else .no) (FlP X.K cl W D) := k1
  by_cases q : ds.length = fns.length
  · refine ⟨by rw [← r1.length, q]; exact hl, fun a na => ⟨a, vs, by rw [List.append_nil], by rw [← r1.length, q], upd_same, fun dx H' n1 n2 e1 e2 e3 => ⟨rfl, dx, _, e1, e2, ?_, ?_⟩⟩⟩
    · rw [upd_ne n2] at n1
      exact n1
    · rw [upd_ne n2] at n1
      have eh : upd (del H' a) dx (.xd (fns.zip vs).reverse) = upd H1 dx (.xd (fns.zip vs).reverse) := by
        funext b
        by_cases hb : b = dx
        · subst hb; rw [upd_same, upd_same]
        · rw [upd_ne hb, upd_ne hb]
          by_cases ha : b = a
          · subst ha; rw [del_same, na]
          · rw [del_ne ha, e3 b ha hb, upd_ne ha]
      rw [eh]
      have k2 := k1.of_ok (a := Fl.ex c (fns.zip ds).reverse e) (t := t1) (by rw [if_pos q]) b1 _ (gr_new n1) (S1.new (o := .xd (fns.zip vs).reverse) n1)
      refine k2 σ _ _ ((N.mono g1).mono (gr_new n1)) ⟨rfl, fun z => ?_, fun _ => ⟨dx, _, rfl, S1.fresh n1, upd_same, ?_⟩⟩
      · exfalso
        have := congrArg List.length z
        rw [List.length_reverse, List.length_zip, q, Nat.min_self] at this
        exact hne (List.length_eq_zero_iff.mp this)
      · exact fs_rev (zip_fs (r1.mono (gr_new n1)))
  · exact (k1.of_no (by rw [if_neg q])).elim
/-! ### try .. except C -/
theorem noEx_run {K : PySem.W.Frag} {cl : Str → Addr} {W : WX} {D : Ends} {bs : List Addr} {s : Sto} {H : Hp} {m : Cm Fl} (h : Run K cl F0 bs s H (noEx m) (FlP K cl W D)) : Run K cl F0 bs s H m (FlP K cl W0 D) := by
  unfold Run noEx at *
  cases q : m s with
  | ok fl t =>
    rw [q] at h
    cases fl with
    | nx e => exact h
    | rt d => exact h
    | bk e => exact h
    | ct e => exact h
    | ex c fs e => exact h.elim
  | ex c fs t => rw [q] at h; exact h.elim
  | no => rw [q] at h; exact h
theorem ss_tryO {X : Cx} {cl : Str → Addr} {W : WX} {x : Str} {cc : Value} {cs : List Str} {body suite : List Stmt} {b0 : Stmt} {np pos pos' : Pos} {cb ch : CS} (hs : X.stack = X.env :: X.outer) (hf : X.env.frame = some X.env.locals) (hc : Names X x cc) (tk : Takes X W)
    (cat : ∀ c ∈ cs, PySem.W.exmOne X.K (.ref (cl c)) cc = some true)
    (hb : ∀ (W' : WX) (pn : List (Addr × Obj)) (xe : Value → Shared → Prop), Takes (X.tr pn xe) W' → PassesOwn (model X.prog X.w) X.A X.env xe → SSs (X.tr pn xe) cl W' body cb)
    (hsu : ∀ (a : Addr) (oe : Obj) (pn : List (Addr × Obj)), SSs (X.suite a ((a, oe) :: pn)) cl W0 (b0 :: suite) ch) :
    SS X cl W (.Try body [.ExceptHandler (some (.Name x np)) none (b0 :: suite) pos'] [] [] pos) (sTryO cs cb ch) := by
  refine PS.imp (ps_try_only (tb := fun W' => TSof X.K cl W' cb) (ts := fun _ _ _ => TSof X.K cl W0 ch) hs hf hc tk hb fun a oe cls d pn _ _ => hsu a oe pn) fun D σ H ⟨bs, s, e, S, N, h⟩ => ?_
  refine ⟨bs, s, e, S, N, ?_⟩
  unfold Run at h ⊢
  unfold sTryO at h
  cases q : cb e s with
  | no => rw [q] at h; exact h
  | ex c fs t => rw [q] at h; exact h
  | ok fl t =>
    rw [q] at h
    cases fl with
    | nx e' => exact h
    | rt d => exact h
    | bk e' => exact h
    | ct e' => exact h
    | ex c fs e' =>
      simp only at h ⊢
      by_cases hcs : c ∈ cs
      · rw [if_pos hcs] at h
        have hk : Run X.K cl F0 bs t H (noEx (ch e')) (FlP X.K cl W D) := h
        intro b1 H1 g1 S1 σ' u dx N1 X1
        refine ⟨true, by rw [X1.1]; exact cat c hcs, fun _ a na => ⟨b1, t, e', S1, N1, Run.up g1 (noEx_run hk)⟩, fun z => by cases z⟩
      · rw [if_neg hcs] at h
        exact h.elim
end G

set_option Elab.async false
set_option linter.all false
set_option maxRecDepth 100000
set_option maxHeartbeats 4000000
/-! G, soundness: the __init__ of an own exception class: B.__init__(self, text), then fields. -/
namespace G
open PySem L2 PySem.Spec PyProof.Rows
section
variable {X : Cx} {e : Expr} {es : List Expr} {ta : TA} {p1 p2 pos : Pos} {x : Str} {B : Addr} {mc : Value}
theorem pe_cinit {pl : Sem Bool} (hg : Gl X x) (hm : X.mg x = some (.ref B)) (r : ClX.CRead X.K B mc) (vV : PySem.W.findCls X.K (.ref B) mc "__init__" = some (.val (.builtin "ValueError.__init__"))) (ha : PA X (e :: es) ta) (hdb : (x == ("__debug__" : Str)) = false := by decide)
    (hc : eval (.Call (.Attribute (.Name x p1) "__init__" p2) (e :: es) [] pos) X.env = (do
      let ov ← eval (.Name x p1) X.env
      standAt p2.atName
      let (f, first) ← holding [ov] (getMethod ov "__init__" pl)
      callWith pos f first (backTo pos (starEach (e :: es) X.env)) (backToKw pos (keywordEach [] X.env))) := by rfl)
    (he : starEach (e :: es) X.env = (false, eval e X.env) :: starEach es X.env := by rfl) (hpl : (backTo pos (starEach es X.env)).any (·.1) = false := by rfl) :
    PE X (.Call (.Attribute (.Name x p1) "__init__" p2) (e :: es) [] pos) (tVeI X.K ta) := by
  refine ⟨fun pins s σ H Q I h => ?_⟩
  refine PySem.W.methodCall_KW (ld_glob I hg hm ?_ hdb) hc
  refine PySem.W.method_cls I.kIn r.ga (PySem.W.cls_value I.kIn r.rd vV (by decide +kernel) ?_)
  show wpAny _ _ (callWith pos (Value.builtin "ValueError.__init__") [] (backTo pos (starEach (e :: es) X.env)) []) _ _ _
  refine PyProof.Rows.callWith_method1 (thn (ha.run pos pins _ σ H _ (I.tok _) h) fun us s1 ⟨vs, H1, I1, r1, a, C, ws, ev, hl, T, ea, q⟩ => ?_) he hpl
  subst ev
  cases r1 with
  | @cons _ u0 _ ur ra rw' =>
    obtain rfl : u0 = Value.ref a := ra
    have hlen : ur.length ≤ sizeLine := by
      rw [← Paired.length rw', sizeLine_eq]
      omega
    exact oinit_ok T I1 ea hlen fun s' J => ⟨.non, H1, J, rfl, q⟩
end
section
variable {P : Program} {w : World} {K : PySem.W.Frag} {mg : Str → Option Value} {base : Heap} {C : Addr} {qual a1 a2 f1 f2 m : Str} {st : Stmt} {f : Addr} {fd : FuncData}
theorem fn_ini1 (F : Fun K "__init__" qual st f fd) (S : FnScope ["self", a1] ["self", a1] (defScope st)) (T : OexC K C) (n1 : PySem.W.findIn K (.ref C) f1 = some none)
    (body : ∀ (cdv : Value) (A : Around) (outer : List PySem.Env) (s : Shared) (H : Hp) (E : XK), PSs (cxOf CX0 P w K mg base ["self", a1] qual (defScope st) f cdv A outer s H E).nox (defBody st)
      (tSeq (tDrop (tVeI K (tCons (tVar 0) (tCons (tC (.str m)) tNil)))) (tSeq (tOst K f1 (tVar 0) (tVar 1)) tNext))) : FnOk P w K mg base CX0 1 f fd ["self", a1] (spI C [f1]) := by
  refine F.ok S (fun vs H Q E h => ?_) fun cdv A outer s H vs Q E hr h => ?_
  · obtain ⟨a, ws, rfl, hl, _⟩ := h
    simp at hl ⊢
    exact hl
  · refine ⟨_, body cdv A outer s H E, ?_⟩
    obtain ⟨a, ws, rfl, hl, ha, k⟩ := h
    match ws, hl with
    | [w1], _ =>
      refine ⟨_, rfl, a, C, [.str m], rfl, by simp, T, ha, ?_⟩
      refine ⟨_, rfl, _, rfl, a, C, rfl, T, n1, .inl ⟨ha, fun dx hn hne => ?_⟩⟩
      refine k dx _ hn hne upd_same ?_ fun b h1 h2 => ?_
      · rw [upd_ne hne, upd_same]; rfl
      · rw [upd_ne h1, upd_ne h2]
theorem fn_ini2 (F : Fun K "__init__" qual st f fd) (S : FnScope ["self", a1, a2] ["self", a1, a2] (defScope st)) (T : OexC K C) (n1 : PySem.W.findIn K (.ref C) f1 = some none) (n2 : PySem.W.findIn K (.ref C) f2 = some none)
    (body : ∀ (cdv : Value) (A : Around) (outer : List PySem.Env) (s : Shared) (H : Hp) (E : XK), PSs (cxOf CX0 P w K mg base ["self", a1, a2] qual (defScope st) f cdv A outer s H E).nox (defBody st)
      (tSeq (tDrop (tVeI K (tCons (tVar 0) (tCons (tC (.str m)) tNil)))) (tSeq (tOst K f1 (tVar 0) (tVar 1)) (tSeq (tOst K f2 (tVar 0) (tVar 2)) tNext)))) : FnOk P w K mg base CX0 1 f fd ["self", a1, a2] (spI C [f1, f2]) := by
  refine F.ok S (fun vs H Q E h => ?_) fun cdv A outer s H vs Q E hr h => ?_
  · obtain ⟨a, ws, rfl, hl, _⟩ := h
    simp at hl ⊢
    exact hl
  · refine ⟨_, body cdv A outer s H E, ?_⟩
    obtain ⟨a, ws, rfl, hl, ha, k⟩ := h
    match ws, hl with
    | [w1, w2], _ =>
      refine ⟨_, rfl, a, C, [.str m], rfl, by simp, T, ha, ?_⟩
      refine ⟨_, rfl, _, rfl, a, C, rfl, T, n1, .inl ⟨ha, fun dx hn hne => ?_⟩⟩
      refine ⟨_, rfl, _, rfl, a, C, rfl, T, n2, .inr ⟨dx, [(f1, w1)], upd_same, ?_, by simp, ?_⟩⟩
      · rw [upd_ne hne, upd_same]
      · refine k dx _ hn hne ?_ upd_same fun b h1 h2 => ?_
        · rw [upd_ne (Ne.symm hne), upd_same]
        · rw [upd_ne h2, upd_ne h1, upd_ne h2]
end
/-! what the written part must say of such a class -/
def oexB (K : PySem.W.Frag) (C : Addr) : Bool := match K.lookup C with
  | some ⟨.type "type", _, .cls cd, sl⟩ => (match cd.mro, sl.toList with
    | .ref C' :: bm, [_, _, _, _, some (.builtin n), _] => C' == C && (n == "ValueError.__new__" && (!cd.hasDel && (cd.hasDict && PySem.HandSPX.refsVE bm)))
    | _, _ => false)
  | _ => false
theorem oex_of {K : PySem.W.Frag} {C : Addr} (q : oexB K C = true) (h1 : PySem.W.findIn K (.ref C) "__setattr__" = some (some (.builtin "object.__setattr__"))) (h2 : PySem.W.subIn K (.ref C) (.type "BaseException") = some true) (h3 : PySem.W.typeIn K (.ref C) = some (.type "type"))
    (h4 : PySem.W.keepIn K (.ref C) = true) : OexC K C := by
  refine ⟨?_, h1, h2, h3, h4⟩
  unfold oexB at q
  split at q
  · rename_i dd cd sl ho
    split at q
    · rename_i C' bm k0 k1 k2 k3 n k5 hm hs
      simp only [Bool.and_eq_true, beq_iff_eq, Bool.not_eq_true'] at q
      obtain ⟨rfl, rfl, hdel, hd, hv⟩ := q
      obtain ⟨nm, bs, mro, ns, qn, hdd, sn, sub, ab, col, del⟩ := cd
      dsimp only at hm hdel hd
      subst hm hdel hd
      have hsl : sl = #[k0, k1, k2, k3, some (.builtin "ValueError.__new__"), k5] := by
        obtain ⟨l⟩ := sl
        simp only at hs
        rw [hs]
      subst hsl
      exact ⟨_, _, _, _, _, _, _, _, _, _, _, _, _, _, _, ho, hv⟩
    · cases q
  · cases q
theorem oex_mk {K : PySem.W.Frag} {C N : Addr} {nm q : Str} {bs bm sub : List Value} {sn : List Str} {ab : Bool} {col : Option Bool} {dd : Option Addr} {k0 k1 k2 k3 k5 : Option Value} (l : K.lookup C = some (excClassObj nm q C N bs bm true sn sub ab col dd k0 k1 k2 k3 k5 "ValueError.__new__"))
    (v : PySem.HandSPX.refsVE bm = true) (h1 : PySem.W.findIn K (.ref C) "__setattr__" = some (some (.builtin "object.__setattr__"))) (h2 : PySem.W.subIn K (.ref C) (.type "BaseException") = some true) (h3 : PySem.W.typeIn K (.ref C) = some (.type "type"))
    (h4 : PySem.W.keepIn K (.ref C) = true) : OexC K C := ⟨⟨_, _, _, _, _, _, _, _, _, _, _, _, _, _, _, l, v⟩, h1, h2, h3, h4⟩
end G

set_option Elab.async false
set_option linter.all false
set_option maxRecDepth 100000
set_option maxHeartbeats 4000000
/-! G, soundness: loops over d.items(), d.values(): the dict is locked meanwhile. -/
namespace G
open PySem L2 PySem.Spec PyProof.Rows
variable {X : Cx} {cl : Str → Addr} {W : WX} {p : Pos}
theorem kvr_get {K : PySem.W.Frag} {bs : List Addr} {H : Hp} {ps : List (Key × D)} {qs : List (Key × V)} (r : KvR K cl bs H ps qs) : ∀ {i : Nat} {k : Key} {v : V}, qs[i]? = some (k, v) → ∃ d, ps[i]? = some (k, d) ∧ Rp K cl bs H d v := by
  unfold KvR at r
  induction r with
  | nil => intro i k v h; simp at h
  | @cons p q ps qs h t ih =>
    intro i k v h'
    cases i with
    | zero =>
      simp at h'
      subst h'
      have h1 : p.1 = k := h.1
      exact ⟨p.2, by rw [List.getElem?_cons_zero, ← h1], h.2⟩
    | succ n => simpa using ih (by simpa using h')
theorem keyD_rp {K : PySem.W.Frag} {bs : List Addr} {H : Hp} (k : Key) : Rp K cl bs H (keyD k) (kV k) := by
  cases k with
  | inl i => exact .int i
  | inr z => exact .str z
theorem itOf_i {K : PySem.W.Frag} {j : Nat} {p : Addr} {od : Obj} {ws : List (Key × V)} {b0 : List Addr} {H0 : Hp} (hb : b0[j]? = some p) (hp : H0 p = some (.frz od (.dK ws))) : ItOf K cl (.dits j) b0 H0 (Iti p od ws) := by
  intro bs s H all g S e i
  have hp' := g.fz _ _ _ hp
  have e : (match s[j]? with | some (.fd kvs) => some (kvs.map fun (kv : Key × D) => D.tup [keyD kv.1, kv.2]) | _ => none) = some all := e
  cases q : s[j]? with
  | none => simp only [q] at e; cases e
  | some m =>
    cases m with
    | fd kvs =>
      simp only [q] at e
      cases e
      obtain ⟨p', o, f1, f2, f3⟩ := S.at_ _ _ q
      rw [g.at hb] at f1
      cases f1
      rw [hp'] at f2
      cases f2
      have f3 : KvR K cl bs H kvs ws := f3
      have hl := kvr_len f3
      rw [List.length_map]
      refine ⟨fun hi => ⟨⟨hp', by omega⟩, fun x H' y => ?_⟩, fun hi => ⟨hp', by omega⟩⟩
      obtain ⟨T, k, v, e1, rfl, hT, rfl⟩ := y
      obtain ⟨d, h1, h2⟩ := kvr_get f3 e1
      have gn := gr_new (bs := bs) (o := HO.tup [kV k, v]) hT
      refine ⟨gn, S.new hT, .tup [keyD k, d], by rw [List.getElem?_map, h1]; rfl, ?_⟩
      exact .tup (.inl (.inl (hid_of (S.fresh hT) upd_same))) (.cons (keyD_rp k) (.cons (h2.mono gn) .nil))
    | _ => simp only [q] at e; cases e
theorem itOf_d {K : PySem.W.Frag} {j : Nat} {p : Addr} {od : Obj} {ws : List (Key × V)} {b0 : List Addr} {H0 : Hp} (hb : b0[j]? = some p) (hp : H0 p = some (.frz od (.dK ws))) : ItOf K cl (.dvals j) b0 H0 (Itd p od ws) := by
  intro bs s H all g S e i
  have hp' := g.fz _ _ _ hp
  have e : (match s[j]? with | some (.fd kvs) => some (kvs.map fun (kv : Key × D) => kv.2) | _ => none) = some all := e
  cases q : s[j]? with
  | none => simp only [q] at e; cases e
  | some m =>
    cases m with
    | fd kvs =>
      simp only [q] at e
      cases e
      obtain ⟨p', o, f1, f2, f3⟩ := S.at_ _ _ q
      rw [g.at hb] at f1
      cases f1
      rw [hp'] at f2
      cases f2
      have f3 : KvR K cl bs H kvs ws := f3
      have hl := kvr_len f3
      rw [List.length_map]
      refine ⟨fun hi => ⟨⟨hp', by omega⟩, fun x H' y => ?_⟩, fun hi => ⟨hp', by omega⟩⟩
      obtain ⟨rfl, k, e1⟩ := y
      obtain ⟨d, h1, h2⟩ := kvr_get f3 e1
      exact ⟨Gr.refl _ _, S, d, by rw [List.getElem?_map, h1]; rfl, h2⟩
    | _ => simp only [q] at e; cases e
theorem i_itsF {x : Str} (i : Nat) {elts : List Expr} {kk : Nat} {tpos apos cpos : Pos} (hN : X.N[i]? = some x := by rfl) (hv : Vis X.env.scope x := by first | exact Or.inl rfl | exact Or.inr (Or.inl rfl) | exact Or.inr (Or.inr rfl)) (hd : (x == ("__debug__" : Str)) = false := by decide) (hcd : (x == ("__classdict__" : Str)) = false := by decide)
    (hbase : attributeBase (.Name x p) "items" X.env (eval (.Name x p) X.env) = eval (.Name x p) X.env := by rfl) (hline : (apos.endLine == cpos.line) = true := by rfl) : SI X cl W (.Tuple elts kk tpos) (.Call (.Attribute (.Name x p) "items" apos) [] [] cpos) (iItsF i) :=
  PI.imp (pi_items (pe_var hN hv hd hcd) hbase hline) fun σ H R ⟨bs, s, e, S, N, h⟩ => by
    cases q : sl e i with
    | none => exact (Run.of_no h (by unfold iItsF; simp only [q])).elim
    | some d =>
      cases d with
      | box j =>
        cases q2 : s[j]? with
        | none => exact (Run.of_no h (by unfold iItsF; simp only [q, q2])).elim
        | some m =>
          cases m with
          | fd kvs =>
            obtain ⟨p, o, f1, f2, f3⟩ := S.at_ _ _ q2
            cases o with
            | frz od u =>
              cases u with
              | dK ws =>
                obtain ⟨v, h1, r⟩ := N.at_ i _ (sl_get.mp q)
                cases r with
                | box hb =>
                  rw [f1] at hb
                  cases hb
                  exact ⟨_, h1, _, od, _, rfl, f2, h.of_ok (a := .dits j) (t := s) (by unfold iItsF; simp only [q, q2]) bs H (Gr.refl _ _) S _ (itOf_i f1 f2)⟩
              | _ => exact (show False from f3).elim
            | _ => exact (show False from f3).elim
          | _ => exact (Run.of_no h (by unfold iItsF; simp only [q, q2])).elim
      | _ => exact (Run.of_no h (by unfold iItsF; simp only [q])).elim
theorem i_valsF {x : Str} (i : Nat) {tg : Expr} {apos cpos : Pos} (hN : X.N[i]? = some x := by rfl) (hv : Vis X.env.scope x := by first | exact Or.inl rfl | exact Or.inr (Or.inl rfl) | exact Or.inr (Or.inr rfl)) (hd : (x == ("__debug__" : Str)) = false := by decide) (hcd : (x == ("__classdict__" : Str)) = false := by decide)
    (hbase : attributeBase (.Name x p) "values" X.env (eval (.Name x p) X.env) = eval (.Name x p) X.env := by rfl) (hline : (apos.endLine == cpos.line) = true := by rfl) : SI X cl W tg (.Call (.Attribute (.Name x p) "values" apos) [] [] cpos) (iValsF i) :=
  PI.imp (pi_values (pe_var hN hv hd hcd) hbase hline) fun σ H R ⟨bs, s, e, S, N, h⟩ => by
    cases q : sl e i with
    | none => exact (Run.of_no h (by unfold iValsF; simp only [q])).elim
    | some d =>
      cases d with
      | box j =>
        cases q2 : s[j]? with
        | none => exact (Run.of_no h (by unfold iValsF; simp only [q, q2])).elim
        | some m =>
          cases m with
          | fd kvs =>
            obtain ⟨p, o, f1, f2, f3⟩ := S.at_ _ _ q2
            cases o with
            | frz od u =>
              cases u with
              | dK ws =>
                obtain ⟨v, h1, r⟩ := N.at_ i _ (sl_get.mp q)
                cases r with
                | box hb =>
                  rw [f1] at hb
                  cases hb
                  exact ⟨_, h1, _, od, _, rfl, f2, h.of_ok (a := .dvals j) (t := s) (by unfold iValsF; simp only [q, q2]) bs H (Gr.refl _ _) S _ (itOf_d f1 f2)⟩
              | _ => exact (show False from f3).elim
            | _ => exact (show False from f3).elim
          | _ => exact (Run.of_no h (by unfold iValsF; simp only [q, q2])).elim
      | _ => exact (Run.of_no h (by unfold iValsF; simp only [q])).elim
end G

set_option Elab.async false
set_option linter.all false
set_option maxRecDepth 100000
set_option maxHeartbeats 4000000
/-! G, soundness: a def as a value, a name that holds a def, called. -/
namespace G
open PySem L2 PySem.Spec PyProof.Rows
/-- a def of the module as a value -/
theorem z_fn {X : Cx} {cl : Str → Addr} {W : WX} {mg : Str → Option Value} {x : Str} {pos : Pos} (h : mg x = some (.ref (cl x))) (hmg : X.mg = mg) (hg : Gl X x) (hd : (x == ("__debug__" : Str)) = false := by decide) : SE X cl W (.Name x pos) (cK (.fn x)) := by
  subst hmg
  refine PE.imp (pe_glob hg h (v := .ref (cl x)) rfl hd) fun σ H Q ⟨bs, s, e, S, N, h⟩ => ?_
  exact Run.now S h _ (.fn x)
/-- the i-th slot holds one of several defs: the promise goes with the address -/
def tCallF (i : Nat) (B : Addr → Sp → Prop) (E : L2.St → XK) (t : TA) : TE := fun σ H Q => ∃ f sp, σ[i]? = some (some (.ref f)) ∧ B f sp ∧ t σ H fun vs H1 => sp vs H1 Q (E σ)
theorem pe_callF {X : Cx} {CX : CXT} {k i : Nat} {B : Addr → Sp → Prop} {E : L2.St → XK} {x : Str} {p pos : Pos} {e : Expr} {es : List Expr} {t : TA}
    (HB : ∀ f sp, B f sp → ∃ j fd ps, j ≤ k ∧ FnOk X.prog X.w X.K X.mg X.base CX j f fd ps sp ∧ PySem.W.keepIn X.K (.ref f) = true ∧ Binds X.K fd ps []) (hr : Room k X.A) (hN : X.N[i]? = some x) (hv : Vis X.env.scope x) (hx : ∀ σ, PassesAt CX X σ (E σ)) (ha : PA X (e :: es) t)
    (hdb : (x == ("__debug__" : Str)) = false := by decide) (hcd : (x == ("__classdict__" : Str)) = false := by decide)
    (he : starEach (e :: es) X.env = (false, eval e X.env) :: starEach es X.env := by rfl) (hpl : (backTo pos (starEach es X.env)).any (·.1) = false := by rfl) : PE X (.Call (.Name x p) (e :: es) [] pos) (tCallF i B E t) := by
  refine ⟨fun pins s σ H Q I h => ?_⟩
  obtain ⟨f, sp, hs, hb, ht⟩ := h
  obtain ⟨j, fd, ps, hj, F, hk, hbi⟩ := HB f sp hb
  refine wpAny_Call_Name_kw (thn ((pe_var (pos := p) hN hv hdb hcd).run pins s σ H (fun v H1 => v = .ref f ∧ H1 = H) I ⟨.ref f, hs, rfl, rfl⟩) fun u s1 ⟨v, H1, I1, r1, q1⟩ => ?_)
  obtain ⟨rfl, rfl⟩ := q1
  cases r1
  refine PySem.W.callWith_K (h₀ := X.base) I.ok.mod.kin hk (thn (ha.run pos pins s1 σ _ _ I1 ht) fun us s2 ⟨vs, H2, I2, r, q⟩ => ⟨I2.kIn, ?_⟩) he hpl
  exact run_fnSD F (hr.mono hj) hbi .nil (hx σ) I2 r (by rw [List.append_nil]; exact q)
/-- the defs of a table -/
inductive Tb (Y : Wd) (k n : Nat) : FT → Prop
  | nil : Tb Y k n []
  | cons {x : Str} {g : List D → Cm D} {r : FT} {j : Nat} (d : Df Y x j n g) (h : Y.mg x = some (.ref (Y.cl x))) (hj : j ≤ k) (t : Tb Y k n r) : Tb Y k n ((x, g) :: r)
theorem Tb.at {Y : Wd} {k n : Nat} {tbl : FT} (t : Tb Y k n tbl) {x : Str} {g : List D → Cm D} (h : lookF tbl x = some g) : ∃ j, Df Y x j n g ∧ Y.mg x = some (.ref (Y.cl x)) ∧ j ≤ k := by
  induction t with
  | nil => cases h
  | @cons y g' r j d hy hj t ih =>
    unfold lookF at h
    by_cases c : y = x
    · rw [if_pos c] at h
      cases h
      subst c
      exact ⟨j, d, hy, hj⟩
    · rw [if_neg c] at h
      exact ih h
section
variable {X : Cx} {cl : Str → Addr} {P : Program} {w : World} {K : PySem.W.Frag} {mg : Str → Option Value} {base : Heap} {k n i : Nat} {tbl : FT} {x : Str} {e0 : Expr} {es : List Expr} {aa : CA} {p pos : Pos} {W : WX}
theorem s_callV {Y : Wd} (d : Tb Y k n tbl) (tk : Lets Y X W) (hr : Room k X.A) (hN : X.N[i]? = some x) (hv : Vis X.env.scope x) (ha : SA X Y.cl W (e0 :: es) aa) (hdb : (x == ("__debug__" : Str)) = false := by decide) (hcd : (x == ("__classdict__" : Str)) = false := by decide)
    (he : starEach (e0 :: es) X.env = (false, eval e0 X.env) :: starEach es X.env := by rfl) (hpl : (backTo pos (starEach es X.env)).any (·.1) = false := by rfl) : SE X Y.cl W (.Call (.Name x p) (e0 :: es) [] pos) (cCallV i tbl aa) := by
  obtain ⟨YP, Yw, YK, Ymg, Yb, YCX, Ycl, YF⟩ := Y
  obtain ⟨e1, e2, e3, e4, e5, pa, im⟩ := tk
  obtain ⟨Xp, Xw, XK, Xmg, Xb, XA, XN, Xs0, XH0, Xenv, Xo, Xst, Xex, Xfn, Xc, Xpn, Xxe⟩ := X
  simp only at e1 e2 e3 e4 e5
  subst e1 e2 e3 e4 e5
  refine PE.imp (pe_callF (i := i) (B := fun f sp => ∃ y g, lookF tbl y = some g ∧ f = Ycl y ∧ sp = spOf XK Ycl YF n g) (E := fun σ u d H => W u d σ H) (fun f sp ⟨y, g, h1, h2, h3⟩ => ?_) hr hN hv pa ha hdb hcd he hpl) fun σ H Q ⟨bs, s, e, S, N, h⟩ => ?_
  · obtain ⟨j, d1, hm1, hj⟩ := d.at h1
    obtain ⟨f', fd, ps, hm, hk, hb, hl, F⟩ := d1.ex
    have ef : f' = Ycl y := by
      have := hm.symm.trans hm1
      injection this with this
      injection this
    subst h2 h3 ef
    exact ⟨j, fd, ps, hj, F, hk, hb⟩
  · have hs : ∃ x' g, sl e i = some (.fn x') ∧ lookF tbl x' = some g ∧ Run XK Ycl (fun u dx H' => W u dx σ H') bs s H (bnd (aa e) g) (fun d bs' _ H' => ∀ v, Rp XK Ycl bs' H' d v → Q v H') := by
      unfold cCallV at h
      cases q : sl e i with
      | none => rw [q] at h; exact h.elim
      | some d' =>
        rw [q] at h
        dsimp only at h
        cases d' with
        | fn x' =>
          have h : Run XK Ycl (fun u dx H' => W u dx σ H') bs s H (match lookF tbl x' with | some g => bnd (aa e) g | none => noC) (fun d bs' _ H' => ∀ v, Rp XK Ycl bs' H' d v → Q v H') := h
          cases q2 : lookF tbl x' with
          | none => rw [q2] at h; exact h.elim
          | some g => rw [q2] at h; exact ⟨x', g, rfl, q2, h⟩
        | _ => exact h.elim
    obtain ⟨y, g, h1, h2, h3⟩ := hs
    obtain ⟨v, hv1, hv2⟩ := N.at_ i _ (sl_get.mp h1)
    cases hv2
    obtain ⟨j, d1, hm1, hj⟩ := d.at h2
    refine ⟨Ycl y, _, hv1, ⟨y, g, h2, rfl, rfl⟩, bs, s, e, S, N, (Run.bnd h3).imp fun ds b1 t1 H1 g1 S1 k1 vs r1 => ?_⟩
    by_cases hlen : ds.length = n
    · exact ⟨b1, t1, ds, hlen, S1, r1, k1.wish (im σ)⟩
    · exact (Run.of_no k1 (d1.ar ds hlen t1)).elim
/-- of defs that raise nothing, where none does -/
theorem z_callV (d : Tb (wz P w K mg base cl) k n tbl) (i' : Is X P w K mg base) (hr : Room k X.A) (hN : X.N[i]? = some x) (hv : Vis X.env.scope x) (ha : SA X cl W0 (e0 :: es) aa) (hdb : (x == ("__debug__" : Str)) = false := by decide) (hcd : (x == ("__classdict__" : Str)) = false := by decide)
    (he : starEach (e0 :: es) X.env = (false, eval e0 X.env) :: starEach es X.env := by rfl) (hpl : (backTo pos (starEach es X.env)).any (·.1) = false := by rfl) : SE X cl W0 (.Call (.Name x p) (e0 :: es) [] pos) (cCallV i tbl aa) := s_callV d i'.lets hr hN hv ha hdb hcd he hpl
/-- of defs that raise -/
theorem r_callV (d : Tb (wr P w K mg base cl) k n tbl) (i' : Is X P w K mg base) (tk : Takes X W) (hr : Room k X.A) (hN : X.N[i]? = some x) (hv : Vis X.env.scope x) (ha : SA X cl W (e0 :: es) aa) (hdb : (x == ("__debug__" : Str)) = false := by decide) (hcd : (x == ("__classdict__" : Str)) = false := by decide)
    (he : starEach (e0 :: es) X.env = (false, eval e0 X.env) :: starEach es X.env := by rfl) (hpl : (backTo pos (starEach es X.env)).any (·.1) = false := by rfl) : SE X cl W (.Call (.Name x p) (e0 :: es) [] pos) (cCallV i tbl aa) := s_callV d (i'.letsR tk) hr hN hv ha hdb hcd he hpl
/-- of defs that raise nothing, where an exception would matter -/
theorem y_callV (d : Tb (wz P w K mg base cl) k n tbl) (i' : Is X P w K mg base) (hr : Room k X.A) (hN : X.N[i]? = some x) (hv : Vis X.env.scope x) (ha : SA X cl W (e0 :: es) aa) (hdb : (x == ("__debug__" : Str)) = false := by decide) (hcd : (x == ("__classdict__" : Str)) = false := by decide)
    (he : starEach (e0 :: es) X.env = (false, eval e0 X.env) :: starEach es X.env := by rfl) (hpl : (backTo pos (starEach es X.env)).any (·.1) = false := by rfl) : SE X cl W (.Call (.Name x p) (e0 :: es) [] pos) (cCalmV i tbl aa) := by
  obtain ⟨e1, e2, e3, e4, e5⟩ := i'
  subst e1 e2 e3 e4 e5
  refine PE.imp (pe_callF (i := i) (B := fun f sp => ∃ y g, lookF tbl y = some g ∧ f = cl y ∧ sp = spOf X.K cl (fun _ => F0) n g) (CX := CX0) (E := fun _ _ _ _ => False) (fun f sp ⟨y, g, h1, h2, h3⟩ => ?_) hr hN hv (fun _ _ _ _ _ _ _ h => (show False from h).elim) ha hdb hcd he hpl) fun σ H Q ⟨bs, s, e, S, N, h⟩ => ?_
  · obtain ⟨j, d1, hm1, hj⟩ := d.at h1
    obtain ⟨f', fd, ps, hm, hk, hb, hl, F⟩ := d1.ex
    have ef : f' = cl y := by
      have := hm.symm.trans hm1
      injection this with this
      injection this
    subst h2 h3 ef
    exact ⟨j, fd, ps, hj, F, hk, hb⟩
  · have hs : ∃ x' g, sl e i = some (.fn x') ∧ lookF tbl x' = some g ∧ Run X.K cl (fun u dx H' => W u dx σ H') bs s H (bnd (aa e) fun xs => noX (g xs)) (fun d bs' _ H' => ∀ v, Rp X.K cl bs' H' d v → Q v H') := by
      unfold cCalmV at h
      cases q : sl e i with
      | none => rw [q] at h; exact h.elim
      | some d' =>
        rw [q] at h
        dsimp only at h
        cases d' with
        | fn x' =>
          have h : Run X.K cl (fun u dx H' => W u dx σ H') bs s H (match lookF tbl x' with | some g => bnd (aa e) fun xs => noX (g xs) | none => noC) (fun d bs' _ H' => ∀ v, Rp X.K cl bs' H' d v → Q v H') := h
          cases q2 : lookF tbl x' with
          | none => rw [q2] at h; exact h.elim
          | some g => rw [q2] at h; exact ⟨x', g, rfl, q2, h⟩
        | _ => exact h.elim
    obtain ⟨y, g, h1, h2, h3⟩ := hs
    obtain ⟨v, hv1, hv2⟩ := N.at_ i _ (sl_get.mp h1)
    cases hv2
    obtain ⟨j, d1, hm1, hj⟩ := d.at h2
    refine ⟨cl y, _, hv1, ⟨y, g, h2, rfl, rfl⟩, bs, s, e, S, N, (Run.bnd h3).imp fun ds b1 t1 H1 g1 S1 k1 vs r1 => ?_⟩
    by_cases hlen : ds.length = n
    · exact ⟨b1, t1, ds, hlen, S1, r1, noX_run k1⟩
    · exact (Run.of_no (noX_run k1) (d1.ar ds hlen t1)).elim
end
end G

set_option Elab.async false
set_option linter.all false
set_option maxRecDepth 100000
set_option maxHeartbeats 4000000
/-! G, soundness: raise C (an own class without __init__, no call). -/
namespace G
open PySem L2 PySem.Spec PyProof.Rows PySem.Calls
/-- issubclass(C, C) of an own class -/
theorem issub_nested {prog : Program} {w : World} {K : PySem.W.Frag} {C : Addr} {A : Around} {Q : PySem.Fin → Shared → Prop} {E : Value → Shared → Prop} {s : Shared} {k : Value} {dep : Int} {tk : Tok} (hk : k = .int dep tk) (kin : K.In s.heap)
    (hcl : PySem.W.Looks (model prog w) s.heap (isType (.ref C)) true)
    (ht : PySem.W.typeIn K (.ref C) = some (.type "type")) (hs : PySem.W.subIn K (.ref C) (.ref C) = some true) (hq : Q (.done (.ret (.bool true))) s) :
    wpAny (model prog w) A (Builtin.«issubclass.nested» ⟨[.ref C, .ref C, k], []⟩) Q E s := by
  subst hk
  have LT := PySem.W.looks_typeIn (M := model prog w) kin ht
  have LS := PySem.W.looks_subIn (M := model prog w) kin hs
  unfold Builtin.«issubclass.nested»
  dsimp only
  refine wpAny_bind (LT.here ?_)
  rw [if_pos (by decide)]
  refine wpAny_bind ?_
  refine wpAny_bind (m := isType (.ref C)) (hcl.here ?_)
  refine wpAny_bind (m := isType (.ref C)) (hcl.here ?_)
  simp only [Bool.and_self, if_true]
  refine LS.here ?_
  exact wpAny_pure hq
theorem issub_call {prog : Program} {w : World} {K : PySem.W.Frag} {C : Addr} {A : Around} {E : Value → Shared → Prop} {s : Shared} {Q : Value → Shared → Prop} (kin : K.In s.heap)
    (hcl : ∀ prog w, PySem.W.Looks (model prog w) s.heap (isType (.ref C)) true)
    (ht : PySem.W.typeIn K (.ref C) = some (.type "type")) (hs : PySem.W.subIn K (.ref C) (.ref C) = some true) (h : Q (.bool true) s) : wpAny (model prog w) A (call (.builtin "issubclass") [.ref C, .ref C]) Q E s := by
  refine call_issubclass (S := fun _ R s' => s' = s ∧ R (.ok (.ret (.bool true))) s') ?_ ⟨rfl, h⟩
  rintro prog w A R s' ⟨rfl, hR⟩
  exact issubclass_outer (issub_nested rfl kin (hcl prog w) ht hs hR)
theorem ps_raiseB {X : Cx} {W : WX} {x : Str} {C : Addr} {bmB : List Value} {B newId initId : String} {np pos : Pos} (hc : X.calm = true) (tk : Takes X W) (F : ExcBaseFacts B newId initId bmB) (q : PySem.W.excIn X.K C bmB newId = true) (gC : X.mg x = some (.ref C)) (r : Raises X (.ref C))
    (ht : PySem.W.typeIn X.K (.ref C) = some (.type "type")) (hs : PySem.W.subIn X.K (.ref C) (.ref C) = some true) (hb : PySem.W.subIn X.K (.ref C) (.type "BaseException") = some true) (hg : Gl X x) (hdb : (x == ("__debug__" : Str)) = false := by decide) :
    PS X (.Raise (some (.Name x np)) none pos) (fun _ σ H => W (.ref C) none σ H) := by
  refine ⟨fun pins s σ H D I h => ?_⟩
  show wpAny _ _ (do standAt pos; raiseStmt X.env (some (do let v ← eval (.Name x np) X.env; standAt pos; pure v)) none) _ _ _
  refine wpAny_bind (wpAny_standAt ?_)
  unfold raiseStmt
  dsimp only
  refine wpAny_bind (wpAny_bind (ld_glob I hg gC (wpAny_bind (wpAny_standAt (wpAny_pure ?_))) hdb))
  refine wpAny_bind (wpAny_pure ?_)
  dsimp only
  refine wpAny_bind (wpAny_holding ?_)
  unfold excFromValue isExcClass
  obtain ⟨bm, N, nm, qn, bs, hdct, sn, sub, ab, col, dd, k0, k1, k2, k3, k5, mN, hC, hN, hni, T⟩ := exc_obj I.kIn q
  have ist : ∀ prog w, PySem.W.Looks (model prog w) s.heap (isType (.ref C)) true := fun prog w => (PySem.W.Looks.ld hC).andThen .now
  have LB := PySem.W.looks_subIn (M := model X.prog X.w) I.kIn hb
  refine wpAny_bind (wpAny_bind ((ist _ _).here ?_))
  simp only [if_true]
  refine LB.here ?_
  simp only [if_true]
  refine wpAny_bind (wpAny_call_exc_subT F T hC hN hni (fun h' e hm => ?_) (by show 0 ≤ sizeLine; omega))
  obtain ⟨t, he, _, _⟩ := hm.there
  have kin' : X.K.In h' := I.kIn.keeps hm.keeps
  have LI : PySem.W.Looks (model X.prog X.w) h' (isInstance (.ref e) (.type "BaseException")) true := by
    have LT : PySem.W.Looks (model X.prog X.w) h' (typeOf (.ref e)) (.ref C) := fun A Q E s k q => wpAny_typeOf_ref (k _ _ he) q
    exact LT.andThen (PySem.W.looks_subIn kin' hb)
  have ist' : ∀ prog w, PySem.W.Looks (model prog w) h' (isType (.ref C)) true := fun prog w => (PySem.W.Looks.ld (hm.keeps _ _ hC)).andThen .now
  refine wpAny_bind (LI.here ?_)
  simp only [Bool.not_true, Bool.false_eq_true, if_false]
  refine wpAny_pure ?_
  refine wpAny_bind ((ist' _ _).here ?_)
  simp only [if_true]
  refine wpAny_bind (wpAny_holding ?_)
  unfold raisedFor
  simp only [Bool.false_eq_true, if_false]
  refine wpAny_bind ?_
  refine wpAny_typeOf_ref he ?_
  refine wpAny_bind (issub_call kin' ist' ht hs ?_)
  refine wpAny_bind (wpAny_truthy_bool ?_)
  simp only [if_true]
  refine wpAny_pure ?_
  unfold setFlight raiseNew
  refine wpAny_bind (wpAny_bind (wpAny_field (i := 1) (x := Value.none) he rfl rfl ?_))
  rw [if_neg (by decide)]
  refine wpAny_pure (wpAny_bind (wpAny_handled ?_))
  rw [I.ok.hd hc]
  have MK := mk_of (Q := fun cls d H' => W cls d σ H') I hm r h (I.hok.gone hm.new)
  obtain ⟨a, oe, vs, sI, H', cls, d, e1, J, k, hne, ha, hz, hd, h1, na, os, ag, r, q⟩ := MK
  cases e1
  have fin := tk _ _ (XE.new J k hne ha hz hd h1 na os ag q)
  first
    | exact wpAny_throw fin
    | exact wpAny_bind (wpAny_pure (wpAny_throw fin))
/-- what is known of a class that is raised without a call -/
structure Rb (K : PySem.W.Frag) (mg : Str → Option Value) (cl : Str → Addr) (c : Str) : Prop where
  m : mg c = some (.ref (cl c))
  q : PySem.W.excIn K (cl c) [.type "ValueError", .type "Exception", .type "BaseException", .type "object"] "ValueError.__new__" = true
  b : PySem.W.subIn K (.ref (cl c)) (.type "BaseException") = some true
  t : PySem.W.typeIn K (.ref (cl c)) = some (.type "type")
  s : PySem.W.subIn K (.ref (cl c)) (.ref (cl c)) = some true
theorem ss_raiseB {X : Cx} {cl : Str → Addr} {W : WX} {c : Str} {np pos : Pos} (R : Rb X.K X.mg cl c) (hc : X.calm = true) (tk : Takes X W) (hg : Gl X c) (hdb : (c == ("__debug__" : Str)) = false := by decide) : SS X cl W (.Raise (some (.Name c np)) none pos) (sRaiseB c) :=
  PS.imp (ps_raiseB hc tk PySem.F.excBase_ValueError R.q R.m (raises_own R.b R.t) R.t R.s R.b hg hdb) fun D σ H ⟨bs, s, e, S, N, h⟩ =>
    (show Run X.K cl F0 bs s H (fun s => .ok (Fl.ex c [] e) s) (FlP X.K cl W D) from h) bs H (Gr.refl _ _) S σ _ _ N ⟨rfl, fun _ => rfl, fun z => absurd rfl z⟩
end G

set_option Elab.async false
set_option linter.all false
set_option maxRecDepth 100000
set_option maxHeartbeats 4000000
/-! G, soundness: dicts by tuples. -/
namespace G
open PySem L2 PySem.Spec PyProof.Rows
section
variable {X : Cx} {cl : Str → Addr} {W : WX} {K : PySem.W.Frag} {bs : List Addr} {H : Hp} {s : Sto}
theorem kvt_len {ps : List (List Key × D)} {kvs : List (List Key × V)} (h : KvR K cl bs H ps kvs) : ps.length = kvs.length := Paired.length h
theorem kvt_val {ps : List (List Key × D)} {kvs : List (List Key × V)} (h : KvR K cl bs H ps kvs) (k : List Key) : (valT ps k = none ∧ valV kvs k = none) ∨ ∃ d v, valT ps k = some d ∧ valV kvs k = some v ∧ Rp K cl bs H d v := by
  unfold KvR at h
  induction h with
  | nil => exact .inl ⟨rfl, rfl⟩
  | @cons p q ps qs h t ih =>
    unfold valT valV at *
    by_cases c : q.1 = k
    · refine .inr ⟨p.2, q.2, ?_, ?_, h.2⟩
      · rw [List.find?_cons_of_pos (by rw [h.1]; simp [c])]; rfl
      · rw [List.find?_cons_of_pos (by simp [c])]; rfl
    · rw [List.find?_cons_of_neg (by rw [h.1]; simp [c]), List.find?_cons_of_neg (by simp [c])]
      exact ih
theorem kvt_put {ps : List (List Key × D)} {kvs : List (List Key × V)} (h : KvR K cl bs H ps kvs) (k : List Key) {d : D} {v : V} (r : Rp K cl bs H d v) : KvR K cl bs H (putT ps k d) (putK kvs k v) := by
  have e : (ps.any fun kv => decide (kv.1 = k)) = (kvs.any fun kv => decide (kv.1 = k)) := by
    unfold KvR at h
    induction h with
    | nil => rfl
    | cons h t ih => rw [List.any_cons, List.any_cons, ih, h.1]
  unfold putT putK
  rw [e]
  by_cases c : (kvs.any fun kv => decide (kv.1 = k)) = true
  · rw [if_pos c, if_pos c]
    clear e c
    unfold KvR at h ⊢
    induction h with
    | nil => exact .nil
    | @cons p q ps qs h t ih =>
      rw [List.map_cons, List.map_cons]
      refine .cons ?_ ih
      by_cases c : p.1 = k
      · rw [if_pos c, if_pos (h.1.symm.trans c)]; exact ⟨h.1, r⟩
      · rw [if_neg c, if_neg (fun z => c (h.1.trans z))]; exact h
  · rw [if_neg c, if_neg c]
    exact Paired.snoc h ⟨rfl, r⟩
theorem tkeys_at {ds : List D} {vs : List V} {k : List Key} (r : RpL K cl bs H ds vs) (h : tKeys ds = some k) : vs = k.map kV := by
  induction ds generalizing vs k with
  | nil => cases h; cases r; rfl
  | cons d ds ih =>
    cases r with
    | cons r1 r2 =>
      unfold tKeys at h
      cases e : keyOf d with
      | none => rw [e] at h; cases h
      | some q =>
        rw [e] at h
        cases e2 : tKeys ds with
        | none => rw [e2] at h; cases h
        | some qs =>
          rw [e2] at h
          cases h
          rw [List.map_cons, key_at r1 e, ih r2 e2]
theorem dt_at {x : D} {v : V} {kvs : List (List Key × D)} (S : StR K cl bs s H) (r : Rp K cl bs H x v) (q : dtAt s x = some kvs) : ∃ p ws, v = .ref p ∧ Rd H p (.dT ws) ∧ KvR K cl bs H kvs ws := by
  cases x with
  | box j =>
    unfold dtAt at q
    cases q4 : s[j]? with
    | none => simp only [q4] at q; cases q
    | some m =>
      cases r with
      | @box _ p hb2 =>
        obtain ⟨p', o, f1, f2, f3⟩ := S.at_ _ _ q4
        rw [f1] at hb2
        cases hb2
        cases m with
        | dt zs =>
          simp only [q4] at q
          cases q
          cases o with
          | dT ws => exact ⟨_, ws, rfl, .inl f2, f3⟩
          | _ => exact (show False from f3).elim
        | ft zs =>
          simp only [q4] at q
          cases q
          cases o with
          | frz ob u =>
            cases u with
            | dT ws => exact ⟨_, ws, rfl, .inr ⟨ob, f2⟩, f3⟩
            | _ => exact (show False from f3).elim
          | _ => exact (show False from f3).elim
        | _ => simp only [q4] at q; cases q
  | _ => cases q
/-- a tuple of ints and texts is a key -/
theorem key_ofS {pins : List (Addr × Obj)} {σ : L2.St} {sh : Shared} {a : Addr} {k : List Key} (I : Inv X pins σ H sh) (h : SqT X.K H a (k.map kV)) : (tupleKind (mixKind X.prog X.w)).is sh.heap k a := by
  obtain ⟨its, r, ⟨o, h1, h2, n, h3⟩, _⟩ := I.tuple h
  exact ⟨o, its.toArray, n, h1, h2, h3, by simpa using items_are r⟩
/-- d[y] of a dict by tuples -/
def tTGet (K : PySem.W.Frag) (td ty : TE) : TE := fun σ H Q => td σ H fun x H1 => ty σ H1 fun y H2 => ∃ a b kvs k v, x = .ref a ∧ Rd H2 a (.dT kvs) ∧ y = .ref b ∧ SqT K H2 b (k.map kV) ∧ valV kvs k = some v ∧ Q v H2
theorem pe_tget {o i : Expr} {pos : Pos} {td ty : TE} (hu : X.A.units + 1 < cLine) (ho : PE X o td) (hi : PE X i ty) (hs : NoSl i) : PE X (.Subscript o i pos) (tTGet X.K td ty) := by
  refine ⟨fun pins s σ H Q I h => ?_⟩
  refine subD_of PySem.F.slot_dict_getitem.lookup hs (thn (ho.run pins s σ H _ I h) fun u s1 ⟨x, H1, I1, rx, q1⟩ => thn (hi.run pins s1 σ H1 _ I1 q1) fun iv s2 ⟨y, H2, I2, ry, a, b, kvs, k, v, ex, g, ey, hk, hv, q2⟩ => ?_)
  subst ex ey
  obtain rfl : u = Value.ref a := rx
  obtain rfl : iv = Value.ref b := ry
  obtain ⟨z, hd, xs, rel, dd⟩ := dt_rd I2.hok g
  refine ⟨dd.typeIs, ?_⟩
  obtain ⟨w', hw, rw'⟩ := RelO.some_of (v := v) (o := (atKey xs k).map (·.2)) (by rw [← hv]; exact rel.val k)
  obtain ⟨p, hp, hp2⟩ := Option.map_eq_some_iff.mp hw
  refine wpAny_getItem_heap (tupleKind_room_in1 hu) (key_ofS I2 hk) dd hp ?_
  rw [hp2]
  exact ⟨v, H2, I2.tok _, rw', q2⟩
theorem s_ixT {a b : Expr} {ca cb : CE} {pos : Pos} (hu : X.A.units + 1 < cLine) (ha : SE X cl W a ca) (hb : SE X cl W b cb) (hn : NoSl b := by intro _ _; rfl) : SE X cl W (.Subscript a b pos) (cBin dIxT ca cb) :=
  PE.imp (pe_tget hu ha hb hn) fun σ H Q ⟨bs, s, e, S, N, h⟩ => by
    refine ⟨bs, s, e, S, N, (Run.bnd h).imp fun x b1 t1 H1 g1 S1 k1 v r1 => ⟨b1, t1, e, S1, N.mono g1, (Run.bnd k1).imp fun y b2 t2 H2 g2 S2 k2 w r2 => ?_⟩⟩
    cases q : dtAt t2 x with
    | none => exact (Run.of_no k2 (by unfold dIxT; simp only [q])).elim
    | some kvs =>
      cases q2 : getT kvs y with
      | none => exact (Run.of_no k2 (by unfold dIxT; simp only [q, q2])).elim
      | some d =>
        obtain ⟨p, ws, ev, f2, f3⟩ := dt_at S2 (r1.mono g2) q
        cases y with
        | tup ds =>
          have q2' : (match tKeys ds with | some k => valT kvs k | none => none) = some d := q2
          cases q3 : tKeys ds with
          | none => rw [q3] at q2'; cases q2'
          | some k =>
            rw [q3] at q2'
            have q2' : valT kvs k = some d := q2'
            cases r2 with
            | @tup _ p2 vs h1 h2 =>
              have ek := tkeys_at h2 q3
              subst ek
              rcases kvt_val f3 k with ⟨z1, z2⟩ | ⟨d', v', z1, z2, z3⟩
              · rw [z1] at q2'; cases q2'
              · rw [z1] at q2'
                cases q2'
                exact ⟨p, p2, ws, k, v', ev, f2, rfl, sqT_mono (fun a o e => (hid_some e).2) h1, z2, k2.of_ok (a := d) (t := t2) (by unfold dIxT; simp only [q, q2]) b2 H2 (Gr.refl _ _) S2 v' z3⟩
        | _ => cases q2
theorem s_newT {pos : Pos} : SE X cl W (.Dict [] [] pos) cNewT := PE.imp pe_dnewT fun σ H Q ⟨bs, s, e, S, N, h⟩ p hn =>
  (show Run X.K cl (fun u dx H' => W u dx σ H') bs s H (alloc (.dt [])) _ from h).of_ok (a := .box s.length) rfl (bs ++ [p]) _ (gr_box S hn) (S.push hn (m := .dt []) (o := .dT []) .nil) _ (.box (push_at S))
/-- o[(e, ..)] = v -/
theorem ss_putT {o : Expr} {es : List Expr} {x1} {e : Expr} {c co : CE} {aa : CA} {p' pt pos : Pos} (hu : X.A.units + 1 < cLine) (ho : SE X cl W o co) (hi : SA X cl W es aa) (he : SE X cl W e c)
    (hs : swapsWithSole [.Subscript o (.Tuple es x1 pt) p'] e pos.line X.env = pure false := by rfl) (hw : swappedStores [.Subscript o (.Tuple es x1 pt) p'] e X.env = pure none := by rfl) (h1 : (assignEach [.Subscript o (.Tuple es x1 pt) p'] X.env).map (·.2) = [assign (.Subscript o (.Tuple es x1 pt) p') X.env] := by rfl)
    (ha : ∀ v, assign (.Subscript o (.Tuple es x1 pt) p') X.env v = (do
      let ov ← holding [v] (eval o X.env)
      let iv ← holding [v, ov] (eval (.Tuple es x1 pt) X.env)
      standAt p'
      holding [v, ov, iv] (setItem ov iv v)
      release [v, ov, iv] []) := by intro _; rfl) : SS X cl W (.Assign [.Subscript o (.Tuple es x1 pt) p'] e pos) (sPutT co aa c) :=
  PS.imp (ps_asg he (pg_sub ho (pe_tup hi) (set_dict hu) ha) hs hw h1) fun E σ H ⟨bs, s, e, S, N, h⟩ => by
    refine ⟨bs, s, e, S, N, (Run.lft N h).imp fun z b1 t1 H1 g1 S1 k v r => ⟨b1, t1, e, S1, N.mono g1, (Run.lft (N.mono g1) k).imp fun x b2 t2 H2 g2 S2 k2 w r2 => ⟨b2, t2, e, S2, (N.mono g1).mono g2, (Run.lft ((N.mono g1).mono g2) k2).imp fun ds b3 t3 H3 g3 S3 k3 us r3 => ?_⟩⟩⟩
    have N3 := ((N.mono g1).mono g2).mono g3
    cases x with
    | box j =>
      have k4 := Run.lft N3 k3
      cases q : t3[j]? with
      | none => exact (Run.of_no k4 (by unfold putTC; simp only [q])).elim
      | some m =>
        cases m with
        | dt kvs =>
          cases q2 : tKeys ds with
          | none => exact (Run.of_no k4 (by unfold putTC; simp only [q, q2])).elim
          | some k =>
            by_cases c : kvs.length < big ∧ ds.length ≤ big
            · obtain ⟨p, o, f1, f2, f3⟩ := S3.at_ _ _ q
              have r2' := r2.mono g3
              cases r2' with
              | box hb =>
                rw [f1] at hb
                cases hb
                cases o with
                | dT ws =>
                  have f3 : KvR X.K cl b3 H3 kvs ws := f3
                  have ek := tkeys_at r3 q2
                  subst ek
                  have hl : kvs.length = ws.length := kvt_len f3
                  refine ⟨?_, fun pn hn => ?_⟩
                  · rw [← r3.length]
                    exact big_line c.2
                  have gn : Gr b3 H3 b3 (upd H3 pn (.tup (k.map kV))) := gr_new hn
                  have ne : p ≠ pn := ne_of_none f2 hn
                  have S4 : StR X.K cl b3 t3 (upd H3 pn (.tup (k.map kV))) := S3.new hn
                  have f2' : upd H3 pn (.tup (k.map kV)) p = some (.dT ws) := by rw [upd_ne ne]; exact f2
                  have f3' : KvR X.K cl b3 (upd H3 pn (.tup (k.map kV))) kvs ws := paired_up (fun a b q => ⟨q.1, q.2.mono gn⟩) f3
                  have rz : Rp X.K cl b3 (upd H3 pn (.tup (k.map kV))) z v := (((r.mono g2).mono g3)).mono gn
                  refine ⟨p, _, rfl, DPut.t f2' upd_same (by rw [← hl]; exact Nat.lt_of_lt_of_le c.1 (big_line (Nat.le_refl _))), ?_⟩
                  have fin := k4.of_ok (a := ()) (t := t3.set j (.dt (putT kvs k z))) (by unfold putTC; simp only [q, q2]; rw [if_pos c]) b3 _ (gn.trans (gr_write f1 f2')) (S4.write f1 f2' (m := .dt (putT kvs k z)) (o := .dT (putK ws k v)) (kvt_put f3' k rz))
                  exact (Run.now (S4.write f1 f2' (m := .dt (putT kvs k z)) (o := .dT (putK ws k v)) (kvt_put f3' k rz)) (a := Fl.nx e) (P := FlP X.K cl W E) fin) _ ((N3.mono gn).mono (gr_write f1 f2'))
                | _ => exact (show False from f3).elim
            · exact (Run.of_no k4 (by unfold putTC; simp only [q, q2]; rw [if_neg c])).elim
        | _ => exact (Run.of_no k4 (by unfold putTC; simp only [q])).elim
    | _ => exact (Run.of_no (Run.lft N3 k3) rfl).elim
theorem dt_wr {x : D} {v : V} {kvs : List (List Key × D)} (S : StR K cl bs s H) (r : Rp K cl bs H x v) (q : dtWr s x = some kvs) : ∃ j p ws, x = .box j ∧ s[j]? = some (.dt kvs) ∧ v = .ref p ∧ bs[j]? = some p ∧ H p = some (.dT ws) ∧ KvR K cl bs H kvs ws := by
  cases x with
  | box j =>
    unfold dtWr at q
    cases q4 : s[j]? with
    | none => simp only [q4] at q; cases q
    | some m =>
      cases m with
      | dt zs =>
        simp only [q4] at q
        cases q
        obtain ⟨p, o, f1, f2, f3⟩ := S.at_ _ _ q4
        cases o with
        | dT ws =>
          cases r with
          | box hb2 =>
            rw [f1] at hb2
            cases hb2
            exact ⟨j, _, ws, rfl, q4, rfl, f1, f2, f3⟩
        | _ => exact (show False from f3).elim
      | _ => simp only [q4] at q; cases q
  | _ => cases q
theorem bu_len2 : BuS K cl bLen2 (fun xs H Q => rLenT xs H Q ∨ (∃ p kvs, xs = [.ref p] ∧ H p = some (.dK kvs) ∧ Q (.int kvs.length) H) ∨ (∃ p ys, xs = [.ref p] ∧ (SqL K H p ys ∨ SqT K H p ys) ∧ Q (.int ys.length) H) ∨ ∃ z, xs = [.str z] ∧ z.length ≤ sizeLine ∧ Q (.int z.length) H) := by
  intro W bs s H ds vs Q S r h
  unfold bLen2 at h
  split at h
  · rename_i x
    cases q : dtWr s x with
    | some kvs =>
      cases r with
      | cons r1 r2 =>
        cases r2
        obtain ⟨j, p, ws, rfl, _, rfl, _, f2, f3⟩ := dt_wr S r1 q
        have fin := Run.of_ok h (a := .int kvs.length) (t := s) (by simp only [q]) bs H (Gr.refl _ _) S
        exact .inl ⟨p, ws, rfl, f2, by rw [← kvt_len f3]; exact fin _ (.int _)⟩
    | none =>
      cases q2 : dkWr s x with
      | some kvs =>
        cases r with
        | cons r1 r2 =>
          cases r2
          obtain ⟨j, p, ws, rfl, _, rfl, _, f2, f3⟩ := dk_wr S r1 q2
          have fin := Run.of_ok h (a := .int kvs.length) (t := s) (by simp only [q, q2]) bs H (Gr.refl _ _) S
          exact .inr (.inl ⟨p, ws, rfl, f2, by rw [← kvr_len f3]; exact fin _ (.int _)⟩)
      | none => exact .inr (.inr (bu_len W bs s H _ vs Q S r (Run.same (by simp only [q, q2]) h)))
  · exact h.elim
theorem s_len2 {e0 : Expr} {es : List Expr} {aa : CA} {p pos : Pos} (hg : Gl X "len") (hm : X.mg "len" = none) (ha : SA X cl W (e0 :: es) aa) (he : starEach (e0 :: es) X.env = (false, eval e0 X.env) :: starEach es X.env := by rfl) (hpl : (backTo pos (starEach es X.env)).any (·.1) = false := by rfl) : SE X cl W (.Call (.Name "len" p) (e0 :: es) [] pos) (cCall bLen2 aa) :=
  s_bu (call_len_dT.or (call_lenD.or (call_len_seq.or call_len_str))) bu_len2 hg hm PySem.boot_len ha (by decide) (by decide) he hpl
end
end G

set_option Elab.async false
set_option linter.all false
set_option maxRecDepth 100000
set_option maxHeartbeats 4000000
/-! G, soundness: try .. except C as e (the exception is tracked), isinstance(e, C), e.f -/
namespace L2
open PySem PySem.Spec PyProof.Rows G
section
variable {X : Cx} {pins : List (Addr × Obj)} {σ : St} {H : Hp} {s : Shared}
/-- a caught exception becomes a tracked thing -/
theorem Inv.xo_laid (I : Inv X pins σ H s) {a C : Addr} {oe : Obj} {vs : Array Value} {d : Option Addr} (ha : s.heap.get? a = some oe) (hz : Zc (.ref C) d oe) (hd : oe.data = .fields vs) (na : H a = none) (nL : a ≠ X.env.locals)
    (h0 : X.s_0.heap.get? a = none) (np : ∀ p ∈ X.pn ++ pins, p.1 ≠ a) : Inv X pins σ (upd H a (xo a C d)) s := by
  have ne0 : ∀ b o, X.s_0.heap.get? b = some o → b ≠ a := fun b o e z => by rw [z, h0] at e; cases e
  have neH : ∀ b o, H b = some o → b ≠ a := fun b o e z => by rw [z, na] at e; cases e
  refine ⟨I.ok, I.os, I.bare, ⟨I.base.keep, I.base.slot, fun b o e n hx => ?_, I.base.there, fun b xs e => ?_, fun b o u e => ?_, fun b ps e => ?_⟩, I.loc, I.cell, ?_, fun x c e => ?_, fun p hp => ?_, fun b o e => ?_, I.len⟩
  · rw [upd_ne (ne0 b o e)]
    exact I.base.free b o e n hx
  · have q := I.base.tups b xs e
    rw [upd_ne (neH _ _ q)]
    exact q
  · have q := I.base.frzs b o u e
    rw [upd_ne (neH _ _ q)]
    exact q
  · obtain ⟨more, q⟩ := I.base.tbls b ps e
    exact ⟨more, by rw [upd_ne (neH _ _ q)]; exact q⟩
  · rw [upd_ne (Ne.symm nL)]
    exact I.free
  · rw [upd_ne (fun z => ?_)]
    · exact I.freeC x c e
    · obtain ⟨v, o, e1, e2⟩ := I.cell x c e
      rw [z, ha] at e1
      cases e1
      rw [hd] at e2
      cases e2
  · obtain ⟨e1, e2, e3, e4, e5⟩ := I.pin p hp
    exact ⟨e1, by rw [upd_ne (np p hp)]; exact e2, e3, e4, e5⟩
  · by_cases z : b = a
    · subst z
      rw [upd_same] at e
      cases e
      refine ⟨⟨oe, vs, ha, hz.1, hz.2, hd⟩, ⟨oe, ha⟩, fun h1 h2 ⟨o', v', q1, q2, q3, q4⟩ k => ⟨o', v', k _ q1, q2, q3, q4⟩⟩
    · rw [upd_ne z] at e
      exact (I.hok b o e).stay (fun _ _ _ q => q) (fun c q => by rw [upd_ne (neH _ _ q)]; exact q) fun c xs q => by rw [upd_ne (neH _ _ q)]; exact q
theorem Inv.suite0 (I : Inv X pins σ H s) (a : Addr) : Inv (X.suite a (X.pn ++ pins)) [] σ H s :=
  ⟨I.ok.suite _ _, I.os, I.bare, I.base, I.loc, I.cell, I.free, I.freeC, fun p hp => I.pin p (by rw [List.append_nil] at hp; exact hp), I.hok, I.len⟩
theorem Inv.unsuite0 {a : Addr} {pn' : List (Addr × Obj)} (I : Inv (X.suite a (X.pn ++ pins)) pn' σ H s) (ok : X.Ok) : Inv X pins σ H s :=
  ⟨ok, I.os, I.bare, I.base, I.loc, I.cell, I.free, I.freeC, fun p hp => I.pin p (List.mem_append_left _ hp), I.hok, I.len⟩
/-- what the clause 'except x as n' wishes of an exception of the body: slot i is n's, the exception is tracked -/
def wAsX (K : PySem.W.Frag) (c : Value) (i : Nat) (ts : TS) (Wout : WX) (D : Ends) : WX := fun cls d σ H =>
  ∃ b, PySem.W.exmOne K cls c = some b ∧ (b = true → ∃ C, cls = .ref C ∧ ∀ a, H a = none → ts { nx := fun σ' H' => D.nx (σ'.set i none) H', rt := D.rt, bk := fun σ' H' => D.bk (σ'.set i none) H', ct := fun σ' H' => D.ct (σ'.set i none) H' } (σ.set i (some (.ref a))) (upd H a (xo a C d))) ∧
    (b = false → Wout cls d σ H)
end
section
variable {X : Cx} {x n : Str} {c : Value} {i : Nat} {body suite : List Stmt} {b₀ : Stmt} {np pos pos' : Pos} {tb : WX → TS} {ts : TS} {Wout : WX}
theorem ps_try_asX (hs : X.stack = X.env :: X.outer) (hf : X.env.frame = some X.env.locals) (hex : X.ex = []) (hN : X.N.Nodup) (hi : X.N[i]? = some n) (hln : X.env.kindOf n = some .local) (hc : Names X x c) (tk : Takes X Wout)
    (hb : ∀ (W : WX) (pn : List (Addr × Obj)) (xe : Value → Shared → Prop), Takes (X.tr pn xe) W → PassesOwn (model X.prog X.w) X.A X.env xe → PSs (X.tr pn xe) body (tb W))
    (hsu : ∀ (a : Addr) (pn : List (Addr × Obj)), PSs (X.suite a pn) (b₀ :: suite) ts) :
    PS X (.Try body [.ExceptHandler (some (.Name x np)) (some n) (b₀ :: suite) pos'] [] [] pos) (fun D σ H => tb (wAsX X.K c i ts Wout D) D σ H) := by
  refine ⟨fun pins s σ H D I h => ?_⟩
  have ok := I.ok
  have hfr : X.A.frames = some (X.env :: X.outer) := by rw [ok.frames, hs]
  have hloc : Loc X.env.scope n := .inl hln
  refine wpAny_Try_except ?_
  refine wpAny_mono ((hb (wAsX X.K c i ts Wout D) (X.pn ++ pins) (fun e s₁ => wpAny (model X.prog X.w) X.A (noteFrame e X.env) (fun _ s₂ => wpAny (model X.prog X.w) X.A (setFlight e none) (fun _ s₃ =>
    wpAny (model X.prog X.w) X.A (handleBy e X.env [.ExceptHandler (some (.Name x np)) (some n) (b₀ :: suite) pos']) (SP X pins D) X.xe s₃) X.xe s₂) X.xe s₁) (fun u s' xx => ?_) PassesOwn.looking).run [] s σ H D (I.toTry _) h) (fun f s1 hsp => ?_) (fun e s1 he => he)
  · -- the catch
    obtain ⟨a, B, sI, pins', σ', H', cls, d, rfl, J', nb, up, sky, na, os, ag, b, hb1, hyes, hno⟩ := xx
    have J : Inv X pins σ' H' sI := J'.ofTry ok
    have sky' : Sky B (X.env :: X.outer) a (Zc cls d) X.env.locals s'.heap := by rw [← hs]; exact sky
    have hBn : B.get? a = none := by
      rcases sky' with ⟨_, z, _⟩ | z | z
      · exact z
      · exact z.2.1
      · exact z.2.1
    show wpAny (model X.prog X.w) X.A (noteFrame (.ref a) X.env) _ _ _
    refine Sky.land Zc.steady hfr hf sky' fun h3 fl3 up3 => ?_
    have J3 : Inv X pins σ' H' { s' with heap := h3 } := J.landed nb fl3.1 (up.trans up3) os ag
    obtain ⟨oe3, vs3, he3, hz3, hd3⟩ := fl3.there
    have notFr : ∀ {h : Heap} {o : Obj} {vs : Array Value}, h.FunFrames B (X.env :: X.outer) → h.get? a = some o → o.data = .fields vs → a ∉ frs (X.env :: X.outer) := fun {h o vs} ff e dd hm => by
      obtain ⟨_, o', e', hnf⟩ := ff.mem hm
      rw [e] at e'; cases e'
      exact hnf _ dd
    have nfr := notFr fl3.2.2.1 he3 hd3
    have nL : a ≠ X.env.locals := fun z => nfr (List.mem_filterMap.mpr ⟨X.env, List.mem_cons_self, by rw [hf, z]⟩)
    have nF : a ∉ X.fs := fun hm => by
      obtain ⟨e, he, q⟩ := List.mem_filterMap.mp hm
      exact nfr (List.mem_filterMap.mpr ⟨e, List.mem_cons_of_mem _ he, q⟩)
    have nS : a ∉ frs X.stack := by rw [hs]; exact nfr
    have nI : ∀ o, sI.heap.get? a ≠ some o := fun o e => by
      have := nb a o e nS
      rw [hBn] at this
      cases this
    have h0 : X.s_0.heap.get? a = none := by
      cases q : X.s_0.heap.get? a with
      | none => rfl
      | some o =>
        obtain ⟨o', e⟩ := J.base.there a o q (by rw [hex]; simp)
        exact absurd e (nI o')
    have npin : ∀ p ∈ X.pn ++ pins, p.1 ≠ a := fun p hp z => by
      obtain ⟨e, _⟩ := J.pin p hp
      rw [z] at e
      exact nI _ e
    have S3 := J3.suite he3 hd3 na nL nF
    refine wpAny_handleBy_cons (codeAny_handlers_test ?_) (by intro q; cases q)
    have LT : PySem.W.Looks (model X.prog X.w) h3 (typeOf (.ref a)) cls := fun A Q E s k q => wpAny_typeOf_ref (k _ _ he3) (by rw [hz3.1]; exact q)
    have LM := PySem.W.exm_one (M := model X.prog X.w) (J3.kIn) LT hb1
    have test : ∀ {Q : Value → Shared → Prop} {E : Value → Shared → Prop}, Q c { s' with heap := h3 } → wpAny (model X.prog X.w) (X.A.mark (some (.ref a))) (eval (.Name x np) X.env) Q E { s' with heap := h3 } := fun {Q E} q => by
      obtain ⟨hg, hdbg, hm | ⟨hm, hv, hnn⟩⟩ := hc
      · exact ld_glob (X := X.suite a ((a, oe3) :: (X.pn ++ pins))) S3 hg hm q hdbg
      · exact ld_blt (X := X.suite a ((a, oe3) :: (X.pn ++ pins))) S3 hg hm hv q hnn hdbg
    refine test (LM.here ?_)
    cases b with
    | true =>
      obtain ⟨C, ecls, hy2⟩ := hyes rfl
      subst ecls
      refine codeAny_handlers_suite_as ?_
      refine HandSPX.lands_againZ fl3 fun h4 fl4 up4 => ?_
      have J4 : Inv X pins σ' H' { s' with heap := h4 } := J.landed nb fl4.1 ((up.trans up3).trans up4) os ag
      obtain ⟨oe4, vs4, he4, hz4, hd4⟩ := fl4.there
      have J5 := J4.xo_laid he4 hz4 hd4 na nL h0 npin
      have S4 := J5.suite0 a
      refine store_ok (X := X.suite a (X.pn ++ pins)) (v := .ref a) S4 hN hi hloc rfl (fun s5 S5 => ?_) (.inr hln)
      refine wpAny_mono ((hsu a (X.pn ++ pins)).run [] s5 _ _ _ S5 (hy2 a na)) (fun f s6 hsp => ?_) (fun _ _ z => False.elim z)
      have end_ : ∀ {σ6 : St} {H6 : Hp} {Q : Shared → Prop}, Inv (X.suite a (X.pn ++ pins)) [] σ6 H6 s6 → (∀ s7, Inv X pins (σ6.set i none) H6 s7 → Q s7) →
          wpAny (model X.prog X.w) X.A (do bindName X.env n .none; unbindBehindTheSuite X.env n pos') (fun _ s7 => Q s7) X.xe s6 := fun {σ6 H6 Q} S6 hq => gone_ok (S6.unsuite0 ok) hN hi hln hq
      cases f with
      | next =>
        obtain ⟨σ6, H6, S6, q6⟩ := hsp
        exact end_ S6 fun s7 J7 => ⟨_, _, J7, q6⟩
      | brk =>
        obtain ⟨σ6, H6, S6, q6⟩ := hsp
        exact end_ S6 fun s7 J7 => ⟨_, _, J7, q6⟩
      | cont =>
        obtain ⟨σ6, H6, S6, q6⟩ := hsp
        exact end_ S6 fun s7 J7 => ⟨_, _, J7, q6⟩
      | ret u =>
        obtain ⟨v6, σ6, H6, S6, r6, q6⟩ := hsp
        exact end_ S6 fun s7 J7 => ⟨_, _, _, J7, r6, q6⟩
    | false =>
      show wpAny _ X.A (handleBy (.ref a) X.env []) _ _ _
      refine wpAny_handleBy_nil ?_
      obtain ⟨k1, k2, k3, oe, vs, T, oT, ts', he, hz, hd, h1, hr⟩ := id fl3
      unfold PySem.passOn
      refine wpAny_bind (wpAny_field he hd h1 ?_)
      rw [if_neg (show ¬ ((Value.ref T == Value.none) = true) from by simp)]
      have fin : wpAny (model X.prog X.w) X.A (setFlight (.ref a) X.env.frame) (fun _ s4 => wpAny (model X.prog X.w) X.A (throw (.ref a) : Sem Flow) (SP X pins D) X.xe s4) X.xe { s' with heap := h3 } := by
        rw [hf]
        refine HandSPX.setFlight_upZ fl3 fun h4 hh4 up4 => wpAny_throw (tk _ _ ?_)
        exact ⟨a, B, sI, pins, σ', H', cls, d, rfl, J, nb, (up.trans up3).trans up4, .inr (.inr (by rw [hs]; exact hh4)), na, os, ag, hno rfl⟩
      first
        | exact wpAny_bind (wpAny_pure (wpAny_bind fin))
        | exact wpAny_bind fin
  · cases f with
    | next =>
      obtain ⟨σ', H', J', q⟩ := hsp
      exact wpAny_execs_nil ⟨σ', H', J'.ofTry ok, q⟩
    | brk =>
      obtain ⟨σ', H', J', q⟩ := hsp
      exact ⟨σ', H', J'.ofTry ok, q⟩
    | cont =>
      obtain ⟨σ', H', J', q⟩ := hsp
      exact ⟨σ', H', J'.ofTry ok, q⟩
    | ret u =>
      obtain ⟨v, σ', H', J', r, q⟩ := hsp
      exact ⟨v, σ', H', J'.ofTry ok, r, q⟩
end
end L2
namespace G
open PySem L2 PySem.Spec PyProof.Rows
section
variable {X : Cx} {cl : Str → Addr} {W : WX}
theorem goneE_run {K : PySem.W.Frag} {D : Ends} {bs bs2 : List Addr} {H H2 : Hp} {i : Nat} {m : Cm Fl} {s t : Sto} (g : Gr bs H bs2 H2) (h : Run K cl F0 bs s H (fun _ => goneE i (noEx m) t) (FlP K cl W D)) :
    Run K cl F0 bs2 t H2 m (FlP K cl W0 { nx := fun σ' H' => D.nx (σ'.set i none) H', rt := D.rt, bk := fun σ' H' => D.bk (σ'.set i none) H', ct := fun σ' H' => D.ct (σ'.set i none) H' }) := by
  unfold Run goneE noEx at h
  unfold Run
  cases q : m t with
  | ok fl u =>
    rw [q] at h
    cases fl with
    | nx e => exact fun b1 H1 g1 S1 σ' N => h b1 H1 (g.trans g1) S1 _ (N.wipe [i])
    | rt d => exact fun b1 H1 g1 S1 => h b1 H1 (g.trans g1) S1
    | bk e => exact fun b1 H1 g1 S1 σ' N => h b1 H1 (g.trans g1) S1 _ (N.wipe [i])
    | ct e => exact fun b1 H1 g1 S1 σ' N => h b1 H1 (g.trans g1) S1 _ (N.wipe [i])
    | ex c fs e => exact h.elim
  | ex c fs u => rw [q] at h; exact h.elim
  | no => rw [q] at h; exact h.elim
theorem ss_tryA {x n : Str} {cc : Value} {cs : List Str} {i : Nat} {body suite : List Stmt} {b0 : Stmt} {np pos pos' : Pos} {cb ch : CS} (hs : X.stack = X.env :: X.outer) (hf : X.env.frame = some X.env.locals) (hex : X.ex = []) (hN : X.N.Nodup) (hc : Names X x cc) (tk : Takes X W)
    (cat : ∀ c ∈ cs, PySem.W.exmOne X.K (.ref (cl c)) cc = some true)
    (hb : ∀ (W' : WX) (pn : List (Addr × Obj)) (xe : Value → Shared → Prop), Takes (X.tr pn xe) W' → PassesOwn (model X.prog X.w) X.A X.env xe → SSs (X.tr pn xe) cl W' body cb)
    (hsu : ∀ (a : Addr) (pn : List (Addr × Obj)), SSs (X.suite a pn) cl W0 (b0 :: suite) ch)
    (hi : X.N[i]? = some n := by rfl) (hln : X.env.kindOf n = some .local := by rfl) :
    SS X cl W (.Try body [.ExceptHandler (some (.Name x np)) (some n) (b0 :: suite) pos'] [] [] pos) (sTryA i cs cb ch) := by
  refine PS.imp (ps_try_asX (tb := fun W' => TSof X.K cl W' cb) (ts := TSof X.K cl W0 ch) hs hf hex hN hi hln hc tk hb fun a pn => hsu a pn) fun D σ H ⟨bs, s, e, S, N, h⟩ => ?_
  refine ⟨bs, s, e, S, N, ?_⟩
  unfold Run at h ⊢
  unfold sTryA at h
  cases q : cb e s with
  | no => rw [q] at h; exact h
  | ex c fs t => rw [q] at h; exact h
  | ok fl t =>
    rw [q] at h
    cases fl with
    | nx e' => exact h
    | rt d => exact h
    | bk e' => exact h
    | ct e' => exact h
    | ex c fs e' =>
      simp only at h ⊢
      by_cases hcs : c ∈ cs
      · rw [if_pos hcs] at h
        have hk : Run X.K cl F0 bs s H (fun _ => goneE i (noEx (ch (st e' i (some (.box t.length))))) (t ++ [.exo c t.length fs])) (FlP X.K cl W D) := h
        intro b1 H1 g1 S1 σ' u dx N1 X1
        refine ⟨true, by rw [X1.1]; exact cat c hcs, fun _ => ⟨cl c, X1.1, fun a na => ?_⟩, fun z => by cases z⟩
        have g2 := gr_box (o := xo a (cl c) dx) S1 na
        have r : MoR X.K cl (b1 ++ [a]) (upd H1 a (xo a (cl c) dx)) (.exo c t.length fs) (xo a (cl c) dx) := by
          refine ⟨a, dx, push_at S1, rfl, X1.2.1, fun z => ?_⟩
          obtain ⟨dd, gs, q1, q2, q3, q4⟩ := X1.2.2 z
          exact ⟨dd, gs, q1, g2.hid _ _ (hid_of q2 q3), paired_up (fun p r z => ⟨z.1, z.2.mono g2⟩) q4⟩
        have S2 : StR X.K cl (b1 ++ [a]) (t ++ [.exo c t.length fs]) (upd H1 a (xo a (cl c) dx)) := by
          refine ⟨by simp [S1.len], ?_, fun j m' e => ?_⟩
          · rw [List.nodup_append]
            refine ⟨S1.nd, by simp, fun a' ha b hb q => ?_⟩
            have : b = a := by simpa using hb
            rw [q, this] at ha
            exact S1.fresh na ha
          · by_cases hj : j < t.length
            · rw [List.getElem?_append_left hj] at e
              obtain ⟨q, u, hq, hu, r'⟩ := S1.at_ j m' e
              exact ⟨q, u, g2.at hq, by rw [upd_ne (ne_of_none hu na)]; exact hu, r'.mono g2⟩
            · rw [List.getElem?_append_right (by omega)] at e
              have hz : j - t.length = 0 := by
                by_cases z : j - t.length = 0
                · exact z
                · rw [List.getElem?_eq_none (by simp; omega)] at e; cases e
              rw [hz] at e
              simp at e
              subst e
              have : j = b1.length := by have := S1.len; omega
              exact ⟨a, _, by rw [this]; simp, upd_same, r⟩
        exact ⟨_, _, _, S2, (N1.mono g2).set i (.box (push_at S1)), goneE_run (g1.trans g2) hk⟩
      · rw [if_neg hcs] at h
        exact h.elim
/-! ### isinstance(e, C), e.f -/
theorem lookIn_ns' {h : Heap} {a : Addr} {mA : Str → Option Value} (hns : h.Ns1 a mA) : ∃ od, h.get? a = some od := by
  obtain ⟨od, _, _, e, _⟩ := hns
  exact ⟨od, e⟩
/-- an exception that is tracked, in the heap -/
theorem xo_inst {bs : List Addr} {t : Sto} {H : Hp} {s : Shared} {pins : List (Addr × Obj)} {σ : L2.St} (I : Inv X pins σ H s) {d : D} {v : V} {c : Str} {fs : List (Str × D)} (S : StR X.K cl bs t H) (r : Rp X.K cl bs H d v) (e : exoAt t d = some (c, fs)) :
    ∃ a ox od, v = .ref a ∧ PySem.W.InstAt s.heap a ox (cl c) od ∧ (fs ≠ [] → ∃ dd gs o, H dd = some (.xd gs) ∧ FsR X.K cl bs H fs gs ∧ od = some o ∧ s.heap.get? dd = some o) := by
  cases r with
  | @box j p hp =>
    obtain ⟨m, o, hm, ho, mr⟩ := S.box hp
    unfold exoAt at e
    simp only [hm] at e
    cases m with
    | exo c' k fs' =>
      dsimp only at e
      by_cases hk : k = j
      · rw [if_pos hk] at e
        subst hk
        cases e
        obtain ⟨a, dx, h1, h2, h3, h4⟩ := (show ∃ (a : Addr) (dx : Option Addr), bs[k]? = some a ∧ o = xo a (cl c) dx ∧ (fs = [] → dx = none) ∧ (fs ≠ [] → ∃ dd gs, dx = some dd ∧ hid bs H dd = some (.xd gs) ∧ FsR X.K cl bs H fs gs) from mr)
        rw [hp] at h1
        cases h1
        subst h2
        obtain ⟨⟨oe, vs, q1, q2, q3, q4⟩, _⟩ := (I.hok p _ ho : ObjOk X.prog X.w H s.heap p (xo p (cl c) dx))
        have no : PySem.W.notCls oe = true := by unfold PySem.W.notCls; rw [q4] <;> rfl
        by_cases z : fs = []
        · have := h3 z
          subst this
          exact ⟨p, oe, none, rfl, ⟨q1, q2, no, by rw [q3]; trivial⟩, fun n => absurd z n⟩
        · obtain ⟨dd, gs, e1, e2, e3⟩ := h4 z
          subst e1
          obtain ⟨_, e2⟩ := hid_some e2
          obtain ⟨mA, hns, hr⟩ := (I.hok dd _ e2 : ObjOk X.prog X.w H s.heap dd (.xd gs))
          obtain ⟨od, hod⟩ := lookIn_ns' hns
          exact ⟨p, oe, some od, rfl, ⟨q1, q2, no, by rw [q3]; exact hod⟩, fun _ => ⟨dd, gs, od, e2, e3, rfl, hod⟩⟩
      · rw [if_neg hk] at e
        cases e
    | _ => cases e
  | _ => cases e
/-- what isinstance is asked: an exception, and a class -/
def rIsX (X : Cx) (cl : Str → Addr) : List V → Hp → VK → Prop := fun xs H Q => ∃ (bs : List Addr) (t : Sto) (d : D) (v c : V) (cv : Value) (x : Str) (fs : List (Str × D)) (b : Bool), xs = [v, c] ∧ StR X.K cl bs t H ∧ Rp X.K cl bs H d v ∧ exoAt t d = some (x, fs) ∧ ExcC X.K (cl x) ∧ (∀ u, RelV c u → u = cv) ∧ PySem.W.kitOne X.K (.ref (cl x)) cv = some b ∧ Q (.bl b) H
theorem call_isX : CallR X (.builtin "isinstance") (rIsX X cl) := by
  intro pins s σ H xs us Q I r h
  obtain ⟨bs, t, d, v, c, cv, x, fs, b, rfl, S, rv, ex, C, hcv, e, q⟩ := h
  obtain ⟨u1, u2, rfl, r1, r2⟩ := vals2 r
  have := hcv _ r2
  subst this
  obtain ⟨a, ox, od, rfl, J, _⟩ := xo_inst I S rv ex
  obtain rfl : u1 = Value.ref a := r1
  have hcl : (PySem.W.clsIn X.K (cl x)).isSome = true := by
    obtain ⟨cd, hc, _⟩ := PySem.W.any_some C.hd
    rw [hc]
    rfl
  exact PySem.W.kia_one (PySem.W.kitx_exc hcl C.hg C.hk C.hs C.ha C.hn C.ht C.hm) I.kIn J e (fun z => nomatch z) fun tk => ⟨.bl b, H, I.tok tk, rfl, q⟩
section
variable {mg : Str → Option Value} {p p2 pos : Pos} {a : Expr} {ca : CE} {Cn : Str} {yes no : List Str}
theorem isx_end {cv : Value} {c : V} {σ : L2.St} {H : Hp} {Q : VK} {bs : List Addr} {t : Sto} {d : D} {v : V} (hcv : ∀ u, RelV c u → u = cv) (hy : ∀ x ∈ yes, ExcC X.K (cl x) ∧ PySem.W.kitOne X.K (.ref (cl x)) cv = some true) (hn : ∀ x ∈ no, ExcC X.K (cl x) ∧ PySem.W.kitOne X.K (.ref (cl x)) cv = some false)
    (S : StR X.K cl bs t H) (r : Rp X.K cl bs H d v) (h : Run X.K cl (fun u dx H' => W u dx σ H') bs t H (dIsE yes no d) (fun d bs' _ H' => ∀ v, Rp X.K cl bs' H' d v → Q v H')) : rIsX X cl [v, c] H Q := by
  cases e : exoAt t d with
  | none => exact (Run.of_no h (by unfold dIsE; simp only [e])).elim
  | some q =>
    obtain ⟨x, fs⟩ := q
    cases e2 : isE yes no x with
    | none => exact (Run.of_no h (by unfold dIsE; simp only [e, e2])).elim
    | some b =>
      have h2 := h.of_ok (a := D.bl b) (t := t) (by unfold dIsE; simp only [e, e2]) bs H (Gr.refl _ _) S
      have fact : ExcC X.K (cl x) ∧ PySem.W.kitOne X.K (.ref (cl x)) cv = some b := by
        unfold isE at e2
        by_cases c1 : x ∈ yes
        · rw [if_pos c1] at e2
          cases e2
          exact hy x c1
        · rw [if_neg c1] at e2
          by_cases c2 : x ∈ no
          · rw [if_pos c2] at e2
            cases e2
            exact hn x c2
          · rw [if_neg c2] at e2
            cases e2
      exact ⟨bs, t, d, v, c, cv, x, fs, b, rfl, S, r, e, fact.1, hcv, fact.2, h2 _ (.bl b)⟩
theorem s_isO (hg : Gl X "isinstance") (hm : X.mg "isinstance" = none) (gT : Gl X Cn) (hmg : X.mg = mg) (mT : mg Cn = some (.ref (cl Cn)))
    (hy : ∀ x ∈ yes, ExcC X.K (cl x) ∧ PySem.W.kitOne X.K (.ref (cl x)) (.ref (cl Cn)) = some true) (hn : ∀ x ∈ no, ExcC X.K (cl x) ∧ PySem.W.kitOne X.K (.ref (cl x)) (.ref (cl Cn)) = some false) (ha : SE X cl W a ca)
    (h1 : starEach [a, .Name Cn p2] X.env = (false, eval a X.env) :: starEach [.Name Cn p2] X.env := by rfl) (hd : (Cn == ("__debug__" : Str)) = false := by decide) :
    SE X cl W (.Call (.Name "isinstance" p) [a, .Name Cn p2] [] pos) (cUn (dIsE yes no) ca) := by
  subst hmg
  refine PE.imp (pe_callB (call_isX (cl := cl)) hg hm (by decide +kernel) (pa_cons ha (pa_cons (pe_glob (v := .ref (cl Cn)) gT mT rfl hd) pa_nil) h1) (by decide) (by decide) h1 rfl) fun σ H Q ⟨bs, s, e, S, N, h⟩ => ?_
  refine ⟨bs, s, e, S, N, (Run.bnd h).imp fun d b1 t1 H1 g1 S1 h1 v r1 => ?_⟩
  exact isx_end (c := .ref (cl Cn)) (fun u q => q) hy hn S1 r1 h1
theorem s_isV (hg : Gl X "isinstance") (hm : X.mg "isinstance" = none) (gT : Gl X "ValueError") (mT : X.mg "ValueError" = none)
    (hy : ∀ x ∈ yes, ExcC X.K (cl x) ∧ PySem.W.kitOne X.K (.ref (cl x)) (.type "ValueError") = some true) (ha : SE X cl W a ca)
    (h1 : starEach [a, .Name "ValueError" p2] X.env = (false, eval a X.env) :: starEach [.Name "ValueError" p2] X.env := by rfl) :
    SE X cl W (.Call (.Name "isinstance" p) [a, .Name "ValueError" p2] [] pos) (cUn (dIsE yes []) ca) := by
  refine PE.imp (pe_callB (call_isX (cl := cl)) hg hm (by decide +kernel) (pa_cons ha (pa_cons (pe_bltn (v := .ty "ValueError") gT mT (by decide +kernel) rfl (by decide) (by decide)) pa_nil) h1) (by decide) (by decide) h1 rfl) fun σ H Q ⟨bs, s, e, S, N, h⟩ => ?_
  refine ⟨bs, s, e, S, N, (Run.bnd h).imp fun d b1 t1 H1 g1 S1 h1 v r1 => ?_⟩
  exact isx_end (c := .ty "ValueError") (fun u q => q) hy (fun x h => by cases h) S1 r1 h1
/-- e.f -/
def tXfX (X : Cx) (cl : Str → Addr) (f : Str) (te : TE) : TE := fun σ H Q => te σ H fun v H1 => ∃ (bs : List Addr) (t : Sto) (d : D) (x : Str) (fs : List (Str × D)) (y : D), StR X.K cl bs t H1 ∧ Rp X.K cl bs H1 d v ∧ exoAt t d = some (x, fs) ∧ ExcC X.K (cl x) ∧ PySem.W.findIn X.K (.ref (cl x)) f = some none ∧ lkF fs f = some y ∧ ∀ w, Rp X.K cl bs H1 y w → Q w H1
theorem fs_lk {K : PySem.W.Frag} {bs : List Addr} {H : Hp} {f : Str} {y : D} : ∀ {fs : List (Str × D)} {gs : List (Str × V)}, FsR K cl bs H fs gs → lkF fs f = some y → ∃ w, gs.lookup f = some w ∧ Rp K cl bs H y w
  | _, _, .nil, e => by simp [lkF] at e
  | (g, d) :: fs, (g', v) :: gs, .cons ⟨r1, r2⟩ t, e => by
    dsimp only at r1 r2
    subst r1
    unfold lkF at e
    by_cases c : g = f
    · rw [if_pos c] at e
      cases e
      subst c
      exact ⟨v, by simp [List.lookup], r2⟩
    · rw [if_neg c] at e
      obtain ⟨w, h1, h2⟩ := fs_lk t e
      refine ⟨w, ?_, h2⟩
      have : (f == g) = false := by simpa using fun z : f = g => c z.symm
      simp only [List.lookup, this]
      exact h1
theorem pe_xfX {e : Expr} {te : TE} {f : Str} (he : PE X e te) (hb : attributeBase e f X.env (eval e X.env) = eval e X.env := by rfl) : PE X (.Attribute e f pos) (tXfX X cl f te) := by
  refine ⟨fun pins s σ H Q I h => ?_⟩
  refine attr_of hb (thn (he.run pins s σ H _ I h) fun u s1 hh => ?_)
  obtain ⟨v, H1, I1, rx, bs, t, d, x, fs, y, S, r, ex, C, hno, hl, q⟩ := hh
  obtain ⟨a, ox, od, rfl, J, hf⟩ := xo_inst I1 S r ex
  obtain rfl : u = Value.ref a := rx
  obtain ⟨dd, gs, o, e1, e2, rfl, e3⟩ := hf (fun z => by rw [z] at hl; cases hl)
  obtain ⟨w, hw, rw_⟩ := fs_lk e2 hl
  obtain ⟨mA, hns, hr⟩ := (I1.hok dd _ e1 : ObjOk X.prog X.w H1 s1.heap dd (.xd gs))
  obtain ⟨od', ho, hlk⟩ := lookIn_ns hns
  rw [e3] at ho
  cases ho
  obtain ⟨u, hu, ru⟩ := RelO.some_of (v := w) (o := mA f) (by rw [← hw]; exact hr f)
  exact HandSPX.exc_get I1.kIn J C.hg C.hk C.hs (PySem.W.findObj_own C.hd hno rfl (by rw [hlk, hu])) (handed_of ru) ⟨w, H1, I1.tok _, ru, q w rw_⟩
theorem s_xf {e : Expr} {c : CE} {f : Str} {raised : List Str} (hC : ∀ x ∈ raised, ExcC X.K (cl x) ∧ PySem.W.findIn X.K (.ref (cl x)) f = some none) (he : SE X cl W e c)
    (hb : attributeBase e f X.env (eval e X.env) = eval e X.env := by rfl) : SE X cl W (.Attribute e f pos) (cUn (dXfR raised f) c) := by
  refine PE.imp (pe_xfX (cl := cl) he hb) fun σ H Q ⟨bs, s, e, S, N, h⟩ => ?_
  refine ⟨bs, s, e, S, N, (Run.bnd h).imp fun d b1 t1 H1 g1 S1 h1 v r1 => ?_⟩
  cases e1 : exoAt t1 d with
  | none => exact (Run.of_no h1 (by unfold dXfR; simp only [e1])).elim
  | some q =>
    obtain ⟨x, fs⟩ := q
    by_cases c1 : x ∈ raised
    · cases e2 : lkF fs f with
      | none => exact (Run.of_no h1 (by unfold dXfR; simp only [e1, e2, if_pos c1])).elim
      | some y =>
        have h2 := h1.of_ok (a := y) (t := t1) (by unfold dXfR; simp only [e1, e2, if_pos c1]) b1 H1 (Gr.refl _ _) S1
        exact ⟨b1, t1, d, x, fs, y, S1, r1, e1, (hC x c1).1, (hC x c1).2, e2, h2⟩
    · exact (Run.of_no h1 (by unfold dXfR; simp only [e1, if_neg c1])).elim
end
end
end G

set_option Elab.async false
set_option linter.all false
set_option maxRecDepth 100000
set_option maxHeartbeats 4000000
/-! G, soundness: == of rows that hold dicts by tuples, list(d.values()), d.clear() of such, == () -/
namespace G
open PySem L2 PySem.Spec PyProof.Rows
open PySem.SeqAt (EqIn EqAt rcIn_lists rcIn_tuples)
section
variable {prog : Program} {w : World} {K : Type} [DecidableEq K] {knd : HeapKind prog w K} {A : Around} {E : Value → Shared → Prop} {s : Shared}
/-- two dicts with keys on the heap, the same keys in the same order, values alike -/
theorem samePairsH {nm : String} {a b : Addr} {xs ys : List (K × Addr × Value)} {Q : Bool → Shared → Prop} (ha : (a == sysModules) = false) (hb : (b == sysModules) = false)
    (da : s.heap.DictOfH knd a xs) (db : s.heap.DictOfH knd b ys) (hu : knd.room A) (hl : xs.length = ys.length) (hp : ∀ (i : Nat) (x y : K × Addr × Value), xs[i]? = some x → ys[i]? = some y → x.1 = y.1 ∧ EqIn prog w A s x.2.2 y.2.2 true) (h : Q true s) :
    wpAny (model prog w) A (Builtin.Dict.samePairs nm a b) Q E s := by
  obtain ⟨oa, es, ep, hoa, _, hda, hka, hia, hna⟩ := da
  obtain ⟨ob, es', ep', hob, _, hdb, hkb, hib, hnb⟩ := db
  have hla : es.size = xs.length := size_of_entries hka
  have hlb : es'.size = ys.length := size_of_entries hkb
  unfold Builtin.Dict.samePairs Builtin.Dict.showsAll
  rw [if_neg (show ¬ (a == sysModules) = true by rw [ha]; exact Bool.false_ne_true), if_neg (show ¬ (b == sysModules) = true by rw [hb]; exact Bool.false_ne_true)]
  refine wpAny_bind (wpAny_pure (wpAny_bind (wpAny_pure ?_)))
  refine wpAny_bind (wpAny_dictEntries hoa hda ?_)
  dsimp only
  refine wpAny_bind (wpAny_dictEntries hob hdb ?_)
  have hsz : es.size = es'.size := by omega
  rw [if_neg (by rw [hsz]; simp)]
  refine wpAny_bind (wpAny_dictEpoch hoa hda ?_)
  refine wpAny_bind ?_
  rw [Std.Legacy.Range.forIn_eq_forIn_range']
  simp only [Std.Legacy.Range.size, Nat.sub_zero, Nat.add_sub_cancel, Nat.div_one]
  refine wpAny_forIn_list _
    (fun rest q s' => s' = s ∧ q = (none, ()) ∧ ∃ i, rest = List.range' i (es.size - i) ∧ i ≤ es.size)
    _ ?_ ?_ _ _ ⟨rfl, rfl, 0, by simp, Nat.zero_le _⟩
  · rintro x rest q s' ⟨rfl, rfl, i, hr, hi⟩
    have hlt : i < es.size := by
      rcases Nat.lt_or_ge i es.size with h | h
      · exact h
      · rw [Nat.sub_eq_zero_of_le h] at hr; simp at hr
    obtain ⟨rfl, hrest⟩ : x = i ∧ rest = List.range' (i + 1) (es.size - (i + 1)) := by
      have e : es.size - i = (es.size - (i + 1)) + 1 := by omega
      rw [e, List.range'_succ] at hr
      injection hr with h1 h2
      exact ⟨h1, h2⟩
    refine wpAny_bind (wpAny_dictEntries hoa hda ?_)
    rw [Array.getElem?_eq_getElem hlt]
    have hx : x < xs.length := by omega
    have hy : x < ys.length := by omega
    have e1 : es[x] = entryOfKey knd xs[x] := by
      have := entry_at hka x
      rw [Array.getElem?_eq_getElem hlt, List.getElem?_eq_getElem hx] at this
      exact Option.some.inj this
    obtain ⟨hk, hv⟩ := hp x _ _ (List.getElem?_eq_getElem hx) (List.getElem?_eq_getElem hy)
    have hisx := hia _ (List.getElem_mem hx)
    show wpAny _ _ (holding [es[x].key, es[x].val] _ >>= _) _ _ _
    rw [e1]
    refine wpAny_bind (wpAny_holding (wpAny_bind (wpAny_dictFind_heap hu hisx hob hdb hkb hib hnb (fun hno => ?_) fun j p hj => ?_)))
    · exfalso
      refine hno x ys[x].2 ?_
      rw [List.getElem?_eq_getElem hy, hk]
    · have ej : j = x := by
        have h1 : (ys.map (·.1))[j]? = some xs[x].1 := by rw [List.getElem?_map, hj]; rfl
        have h2 : (ys.map (·.1))[x]? = some xs[x].1 := by rw [List.getElem?_map, List.getElem?_eq_getElem hy, hk]; rfl
        obtain ⟨l1, q1⟩ := List.getElem?_eq_some_iff.mp h1
        obtain ⟨l2, q2⟩ := List.getElem?_eq_some_iff.mp h2
        exact (List.getElem_inj hnb).mp (q1.trans q2.symm)
      subst ej
      refine wpAny_bind (wpAny_dictEntries hob hdb ?_)
      have e2 : es'[j]? = some (entryOfKey knd ys[j]) := by
        rw [entry_at hkb j, List.getElem?_eq_getElem hy]
        rfl
      rw [e2]
      refine wpAny_holding (hv _ _ ?_)
      show wpAny _ _ (if (!true) = true then _ else _) _ _ _
      rw [if_neg (by decide)]
      refine wpAny_bind (wpAny_dictEpoch hoa hda ?_)
      rw [if_neg (by simp)]
      exact wpAny_pure ⟨rfl, rfl, j + 1, hrest, hlt⟩
  · rintro q s' ⟨rfl, rfl, i, hr, hi⟩
    exact wpAny_pure h
theorem eqH_call {a b : Addr} {xs ys : List (K × Addr × Value)} {Q : Value → Shared → Prop} (ha : (a == sysModules) = false) (hb : (b == sysModules) = false)
    (da : s.heap.DictOfH knd a xs) (db : s.heap.DictOfH knd b ys) (hu : A.units < cLine) (hr : knd.room A.in1) (hl : xs.length = ys.length) (hp : ∀ (i : Nat) (x y : K × Addr × Value), xs[i]? = some x → ys[i]? = some y → x.1 = y.1 ∧ EqIn prog w A.in1 s x.2.2 y.2.2 true) (h : Q (.bool true) s) :
    wpAny (model prog w) A (compareOp .Eq (.ref a) (.ref b)) Q E s := by
  refine wpAny_richCompare_same_room (op := .Eq) da.typeIs db.typeIs PySem.F.slot_dict_eq (wpAny_call_entry PySem.F.slot_dict_eq da.typeIs PySem.F.entry_dict_eq ?_ (PySem.F.args_dict_eq_2 _ _)) hu
  show wpAny _ _ (Builtin.Dict.dictSlotArgs "__eq__" ⟨[.ref a, .ref b], []⟩ >>= _) _ _ s
  refine wpAny_bind ?_
  unfold Builtin.Dict.dictSlotArgs
  refine wpAny_bind (wpAny_notOrdered_dict da.typeIs ?_)
  show wpAny _ _ (pure (Value.ref a, Value.ref b)) _ _ s
  refine wpAny_pure ?_
  refine wpAny_bind (wpAny_isInstance (T := "dict") db.typeIs PySem.F.sub_dict_dict ?_)
  simp only [Bool.not_true, Bool.false_eq_true, if_false]
  refine wpAny_bind (wpAny_pure (wpAny_bind (wpAny_pure ?_)))
  refine wpAny_bind (samePairsH ha hb da db hr hl hp ?_)
  refine wpAny_pure ⟨_, rfl, ?_, ?_⟩
  · exact fun x => nomatch x
  · exact h
end
section
variable {X : Cx} {cl : Str → Addr} {pins : List (Addr × Obj)} {σ : L2.St} {H : Hp} {s : Shared}
theorem paired_get2 {α β : Type} {F : α → β → Prop} : ∀ {xs : List α} {ys : List β}, Paired F xs ys → ∀ {i : Nat} {y : β}, ys[i]? = some y → ∃ x, xs[i]? = some x ∧ F x y
  | _, _, .nil, _, _, e => by simp at e
  | _, _, .cons r t, 0, _, e => by simp at e; subst e; exact ⟨_, rfl, r⟩
  | _, _, .cons r t, i + 1, _, e => by
    obtain ⟨x, h1, h2⟩ := paired_get2 t (i := i) (by simpa using e)
    exact ⟨x, by simpa using h1, h2⟩
/-- two dicts by tuples: the same -/
def SimT (H : Hp) (v w : V) : Prop := ∃ a b ks, v = .ref a ∧ w = .ref b ∧ H a = some (.dT ks) ∧ H b = some (.dT ks) ∧ ∀ p ∈ ks, lfB p.2 = true
theorem simT_in (I : Inv X pins σ H s) {v w : V} (h : SimT H v w) (A : Around) (a b : Value) (hu : A.units + 1 < cLine) (r1 : RelV v a) (r2 : RelV w b) : EqIn X.prog X.w A s a b true := by
  obtain ⟨p, q, ks, rfl, rfl, h1, h2, hf⟩ := h
  obtain rfl : a = Value.ref p := r1
  obtain rfl : b = Value.ref q := r2
  by_cases c : p = q
  · subst c; exact (EqAt.same _).inModel _ _
  · obtain ⟨_, ya, xs, ra, da⟩ := dt_of I.hok h1
    obtain ⟨_, yb, ys, rb, db⟩ := dt_of I.hok h2
    refine SeqAt.EqIn.of_refs c fun E Q hq => eqH_call ya yb da db (by omega) (by show A.units + 1 < cLine; omega) (by rw [← ra.length, ← rb.length]) (fun i x y e1 e2 => ?_) hq
    obtain ⟨k1, f1, g1⟩ := paired_get2 ra e1
    obtain ⟨k2, f2, g2⟩ := paired_get2 rb e2
    rw [f1] at f2
    cases f2
    exact ⟨g1.1.symm.trans g2.1, eqIn_flat (hf _ (List.mem_of_getElem? f1)) g1.2.2 g2.2.2⟩
/-- items that are alike -/
def SimI (K : PySem.W.Frag) (H : Hp) (v w : V) : Prop := Sim K H 7 v w ∨ SimT H v w
theorem simI_in (I : Inv X pins σ H s) {v w : V} (h : SimI X.K H v w) (A : Around) (a b : Value) (hu : A.units + 8 < cLine) (r1 : RelV v a) (r2 : RelV w b) : EqIn X.prog X.w A s a b true := by
  rcases h with h | h
  · exact sim_in I h A a b (by omega) r1 r2
  · exact simT_in I h A a b (by omega) r1 r2
def rEqT (K : PySem.W.Frag) (ans : Bool) : R2 := fun x y H Q => ∃ a b xs ys, x = .ref a ∧ y = .ref b ∧ SqT K H a xs ∧ SqT K H b ys ∧ xs.length = ys.length ∧ (∀ (i : Nat) v w, xs[i]? = some v → ys[i]? = some w → SimI K H v w) ∧ Q (.bl ans) H
theorem op_neT (hu : X.A.units + 64 < cLine) : OpR X (compareOp .NotEq) (rEqT X.K false) := by
  intro pins s σ H x y v u Q I rx ry h
  obtain ⟨a, b, xs, ys, rfl, rfl, h1, h2, hl, hp, q⟩ := h
  obtain rfl : v = Value.ref a := rx
  obtain rfl : u = Value.ref b := ry
  obtain ⟨i1, v1, t1, _⟩ := I.tuple h1
  obtain ⟨i2, v2, t2, _⟩ := I.tuple h2
  refine SeqAt.ne_tuples_same (items := i1.toArray) (items2 := i2.toArray) t1 t2 (by simpa using (show i1.length = i2.length by rw [← v1.length, ← v2.length, hl])) (by omega) (fun j j1 j2 => ?_) ⟨.bl false, H, I, rfl, q⟩
  obtain ⟨x, x1, x2⟩ := vals_at v1 (j := j) (by simpa using j1)
  obtain ⟨y, y1, y2⟩ := vals_at v2 (j := j) (by simpa using j2)
  exact simI_in I (hp j x y x1 y1) _ _ _ (by show X.A.units + 1 + 8 < cLine; omega) (by simpa using x2) (by simpa using y2)
theorem op_eqT (hu : X.A.units + 64 < cLine) : OpR X (compareOp .Eq) (rEqT X.K true) := by
  intro pins s σ H x y v u Q I rx ry h
  obtain ⟨a, b, xs, ys, rfl, rfl, h1, h2, hl, hp, q⟩ := h
  obtain rfl : v = Value.ref a := rx
  obtain rfl : u = Value.ref b := ry
  obtain ⟨i1, v1, t1, _⟩ := I.tuple h1
  obtain ⟨i2, v2, t2, _⟩ := I.tuple h2
  refine rcIn_tuples (e := fun _ => true) (items := i1.toArray) (items2 := i2.toArray) t1 t2 (by omega) (fun j j1 j2 => ?_) ?_
  · obtain ⟨x, x1, x2⟩ := vals_at v1 (j := j) (by simpa using j1)
    obtain ⟨y, y1, y2⟩ := vals_at v2 (j := j) (by simpa using j2)
    exact simI_in I (hp j x y x1 y1) _ _ _ (by show X.A.units + 1 + 8 < cLine; omega) (by simpa using x2) (by simpa using y2)
  · have e : i1.length = i2.length := by rw [← v1.length, ← v2.length, hl]
    have z : ((List.range (min i1.toArray.size i2.toArray.size)).all (fun _ => true) && i1.toArray.size == i2.toArray.size) = true := by
      rw [all_tt]
      simp [e]
    rw [z]
    exact ⟨.bl true, H, I, rfl, q⟩
/-- == with () -/
def rEqN (K : PySem.W.Frag) : R2 := fun x y H Q => ∃ a b xs, x = .ref a ∧ y = .ref b ∧ SqT K H a xs ∧ SqT K H b [] ∧ Q (.bl xs.isEmpty) H
theorem op_eqN (hu : X.A.units + 64 < cLine) : OpR X (compareOp .Eq) (rEqN X.K) := by
  intro pins s σ H x y v u Q I rx ry h
  obtain ⟨a, b, xs, rfl, rfl, h1, h2, q⟩ := h
  obtain rfl : v = Value.ref a := rx
  obtain rfl : u = Value.ref b := ry
  obtain ⟨i1, v1, t1, _⟩ := I.tuple h1
  obtain ⟨i2, v2, t2, _⟩ := I.tuple h2
  have l2 : i2 = [] := by cases v2; rfl
  subst l2
  refine rcIn_tuples (e := fun _ => true) (items := i1.toArray) (items2 := [].toArray) t1 t2 (by omega) (fun j j1 j2 => by simp at j2) ?_
  have z : ((List.range (min i1.toArray.size ([] : List Value).toArray.size)).all (fun _ => true) && i1.toArray.size == ([] : List Value).toArray.size) = xs.isEmpty := by
    rw [all_tt]
    have := v1.length
    cases xs with
    | nil => simp at this; simp [this.symm]
    | cons x xs => simp at this; simp [← this]
  rw [z]
  exact ⟨.bl xs.isEmpty, H, I, rfl, q⟩
end
section
variable {X : Cx} {cl : Str → Addr}
theorem sameF_ok {K : PySem.W.Frag} {bs : List Addr} {H : Hp} {x y : D} {v w : V} (h : sameF x y = true) (r1 : Rp K cl bs H x v) (r2 : Rp K cl bs H y w) : w = v ∧ lfB v = true := by
  unfold sameF at h
  simp only [Bool.and_eq_true, decide_eq_true_eq] at h
  obtain ⟨e1, e2⟩ := flat_eq h.1 h.2 r1 r2
  refine ⟨e1, ?_⟩
  have h0 := h.1
  cases r1 <;> first | rfl | (cases h0; done)
theorem alikeT_ok {K : PySem.W.Frag} {bs : List Addr} {H : Hp} : ∀ {ks ls : List (List Key × D)} {kv lv : List (List Key × V)}, alikeT ks ls = true → KvR K cl bs H ks kv → KvR K cl bs H ls lv → kv = lv ∧ ∀ p ∈ kv, lfB p.2 = true
  | [], [], _, _, _, .nil, .nil => ⟨rfl, fun p h => by cases h⟩
  | [], q :: ls, _, _, h, _, _ => by simp [alikeT] at h
  | p :: ks, [], _, _, h, _, _ => by simp [alikeT] at h
  | p :: ks, q :: ls, (k1, v1) :: kv, (k2, v2) :: lv, h, .cons r1 t1, .cons r2 t2 => by
    unfold alikeT at h
    simp only [List.map_cons, Bool.and_eq_true, decide_eq_true_eq, simL] at h
    obtain ⟨h1, h2, h3⟩ := h
    obtain ⟨e1, e2⟩ := List.cons.inj h1
    obtain ⟨f1, f2⟩ := sameF_ok h2 r1.2 r2.2
    obtain ⟨g1, g2⟩ := alikeT_ok (ks := ks) (ls := ls) (by unfold alikeT; simp only [Bool.and_eq_true, decide_eq_true_eq]; exact ⟨e2, h3⟩) t1 t2
    have ek : k1 = k2 := r1.1.symm.trans (e1.trans r2.1)
    dsimp only at f1
    subst ek f1
    refine ⟨by rw [g1], fun z hz => ?_⟩
    rcases List.mem_cons.mp hz with e | e
    · rw [e]; exact f2
    · exact g2 z e
theorem simE_ok {K : PySem.W.Frag} {bs : List Addr} {s : Sto} {H : Hp} (S : StR K cl bs s H) (x y : D) (v w : V) (h : simE s x y = true) (r1 : Rp K cl bs H x v) (r2 : Rp K cl bs H y w) : SimI K H v w := by
  unfold simE at h
  split at h
  · rename_i i j
    split at h
    · rename_i ks ls z1 z2
      have q1 : dtWr s (.box i) = some ks := by simp only [dtWr, z1]
      have q2 : dtWr s (.box j) = some ls := by simp only [dtWr, z2]
      obtain ⟨_, a, kv, _, _, rfl, _, f2, f3⟩ := dt_wr S r1 q1
      obtain ⟨_, b, lv, _, _, rfl, _, f5, f6⟩ := dt_wr S r2 q2
      obtain ⟨g1, g2⟩ := alikeT_ok h f3 f6
      subst g1
      exact .inr ⟨a, b, kv, rfl, rfl, f2, f5, g2⟩
    · exact .inl (simD_ok S 7 _ _ v w h r1 r2)
  · exact .inl (simD_ok S 7 _ _ v w h r1 r2)
theorem simTT_ok {bs : List Addr} {s : Sto} {H : Hp} {ans : Bool} {Q : VK} (S : StR X.K cl bs s H) {x y : D} {v w : V} (c : simTT s x y = true) (r1 : Rp X.K cl bs H x v) (r2 : Rp X.K cl bs H y w) (q : Q (.bl ans) H) : rEqT X.K ans v w H Q := by
  cases x with
  | tup xs =>
    cases y with
    | tup ys =>
      have c : simL (simE s) xs ys = true := c
      cases r1 with
      | tup h1 q1 =>
        cases r2 with
        | tup h2 q2 =>
          obtain ⟨e, g⟩ := simL_ok (T := SimI X.K H) (fun x y v w e p q => simE_ok S x y v w e p q) c q1 q2
          exact ⟨_, _, _, _, rfl, rfl, sqT_mono (fun a o e => (hid_some e).2) h1, sqT_mono (fun a o e => (hid_some e).2) h2, e, g, q⟩
    | _ => simp [simTT] at c
  | _ => simp [simTT] at c
theorem og_neT (hu : X.A.units + 64 < cLine) : OpG X cl (compareOp .NotEq) dNeT := by
  refine ⟨_, op_neT hu, ?_⟩
  intro W bs s H x y v w Q S r1 r2 h
  by_cases c : simTT s x y = true
  · exact simTT_ok S c r1 r2 (Run.of_ok h (a := .bl false) (t := s) (by unfold dNeT; rw [if_pos c]) bs H (Gr.refl _ _) S _ (.bl _))
  · exact (Run.of_no h (by unfold dNeT; rw [if_neg c])).elim
theorem og_eqT (hu : X.A.units + 64 < cLine) : OpG X cl (compareOp .Eq) dEqT := by
  refine ⟨_, op_eqT hu, ?_⟩
  intro W bs s H x y v w Q S r1 r2 h
  by_cases c : simTT s x y = true
  · exact simTT_ok S c r1 r2 (Run.of_ok h (a := .bl true) (t := s) (by unfold dEqT; rw [if_pos c]) bs H (Gr.refl _ _) S _ (.bl _))
  · exact (Run.of_no h (by unfold dEqT; rw [if_neg c])).elim
theorem og_eqN (hu : X.A.units + 64 < cLine) : OpG X cl (compareOp .Eq) (fun x y => dEqN2 x y) := by
  refine ⟨_, op_eqN hu, ?_⟩
  intro W bs s H x y v w Q S r1 r2 h
  cases x with
  | tup xs =>
    cases y with
    | tup ys =>
      cases ys with
      | nil =>
        have q := Run.of_ok h (a := .bl xs.isEmpty) (t := s) rfl bs H (Gr.refl _ _) S _ (.bl _)
        cases r1 with
        | tup h1 q1 =>
          cases r2 with
          | tup h2 q2 =>
            cases q2
            refine ⟨_, _, _, rfl, rfl, sqT_mono (fun a o e => (hid_some e).2) h1, sqT_mono (fun a o e => (hid_some e).2) h2, ?_⟩
            cases q1 <;> exact q
      | cons y ys => exact (Run.of_no h rfl).elim
    | _ => exact (Run.of_no h rfl).elim
  | _ => exact (Run.of_no h rfl).elim
/-! ### list(d.values()), d.clear() -/
theorem kvt_vals {K : PySem.W.Frag} {bs : List Addr} {H : Hp} {ps : List (List Key × D)} {kvs : List (List Key × V)} (h : KvR K cl bs H ps kvs) : RpL K cl bs H (ps.map (·.2)) (kvs.map (·.2)) := by
  unfold KvR at h
  induction h with
  | nil => exact .nil
  | cons r t ih => exact .cons r.2 ih
def tListVals (te : TE) : TE := fun σ H Q => te σ H fun x H1 => ∃ (p : Addr) (kvs : List (List Key × V)), x = .ref p ∧ H1 p = some (.dT kvs) ∧ ∀ a, H1 a = none → Q (.ref a) (upd H1 a (.lst (kvs.map (·.2))))
theorem pe_listVals {e : Expr} {te : TE} {p apos cpos pos : Pos} (hc : X.calm = true) (he : PE X e te) (hg : Gl X "list") (hm : X.mg "list" = none) (hv : bootBuiltins "list" = some (.type "list")) (hbase : attributeBase e "values" X.env (eval e X.env) = eval e X.env := by rfl) (hline : (apos.endLine == cpos.line) = true := by rfl)
    (hs : starEach [.Call (.Attribute e "values" apos) [] [] cpos] X.env = (false, eval (.Call (.Attribute e "values" apos) [] [] cpos) X.env) :: starEach [] X.env := by rfl) :
    PE X (.Call (.Name "list" p) [.Call (.Attribute e "values" apos) [] [] cpos] [] pos) (tListVals te) := by
  refine ⟨fun pins s σ H Q I hq => ?_⟩
  refine wpAny_Call_Name_kw (ld_blt I hg hm hv ?_)
  refine PyProof.Rows.callWith_type1 ?_ hs rfl
  rw [hs]
  show wpAny _ _ (spliced ((false, eval (.Call (.Attribute e "values" apos) [] [] cpos) X.env) :: backTo pos (starEach [] X.env))) _ _ s
  refine Calls.spliced_cons ?_
  refine wpAny_Call_method (T := "dict") (id := "dict.values") hbase rfl hline F.plainAttrs_dict F.slot_dict_values F.type_dict_values (thn (he.run pins s σ H _ I hq) fun u s1 ⟨x, H1, I1, rx, d, kvs, ex, hd, q⟩ => ?_)
  subst ex
  obtain rfl : u = Value.ref d := rx
  obtain ⟨hz, hs0, xs, rel, hdo⟩ := dt_of I1.hok hd
  obtain ⟨o, es, ep, ho, hex, hdat, hes, his, hnd⟩ := id hdo
  have lk : kvs.length = xs.length := Paired.length rel
  have les : es.size = xs.length := size_of_entries hes
  have hraw : s1.heap.DictRaw d es ep := ⟨o, ho, hex, hdat⟩
  have I2 : Inv X pins σ H1 { s1 with heap := s1.heap.push { cls := .type "dict_values", data := .fields #[.ref d] } } := I1.kept (t' := s1.toks) fun b ob q => Heap.get?_push_of_some _ q
  refine ⟨hdo.typeIs, fun a e => by cases e; exact ⟨o, ho, hex.2.1⟩, ?_⟩
  show wpAny _ _ (callWith cpos (.builtin "dict.values") [.ref d] [] []) _ X.xe s1
  refine method_meetsIn F.slot_dict_values F.entry_dict_values rfl (PySem.evalArgs_none ⟨rfl, hdo.typeIs, F.args_dict_values_1 _, _, meets_dict_values_raw d hs0, ⟨⟨es, ep, hraw⟩, ?_⟩⟩)
  refine Calls.spliced_nil ?_
  refine PySem.W.kdl_call (PySem.KdlSrc.rawValues (es := es) (ep := ep)) (I1.ok.hd hc) ⟨⟨_, Heap.get?_push_size _ rfl, rfl, rfl⟩, hraw.push _⟩ (by omega) fun h' tk acc c hk hS hacc => ?_
  have na := I2.hok.fresh (Nat.le_refl _)
  have vals : Vals (kvs.map (·.2)) acc.toList := by
    obtain ⟨l1, l2⟩ := hacc
    have la : acc.toList.length = acc.size := Array.length_toList
    refine vals_of_at (by rw [List.length_map, la, l1, les, lk]) fun i v u e eu => ?_
    rw [List.getElem?_map] at e
    obtain ⟨p, e1, e2⟩ := Option.map_eq_some_iff.mp e
    subst e2
    obtain ⟨y, f1, f2⟩ := LiI.paired_get rel e1
    rw [Array.getElem?_toList] at eu
    obtain ⟨h1, h2⟩ := l2 i _ eu
    have e3 := entry_at hes i
    rw [Array.getElem?_eq_getElem h1, f1] at e3
    have e4 := Option.some.inj e3
    rw [h2, e4]
    exact f2.2.2
  refine ⟨.ref _, _, I2.laid (o := .lst (kvs.map (·.2))) hk (Nat.le_refl _) ⟨by rw [List.length_map]; exact hz, acc.toList, c, vals, ?_⟩, rfl, q _ na⟩
  rw [Array.toArray_toList]
  exact hS
theorem s_listVals {W : WX} {e : Expr} {c : CE} {p apos cpos pos : Pos} (hc : X.calm = true) (hg : Gl X "list") (hm : X.mg "list" = none) (he : SE X cl W e c) (hbase : attributeBase e "values" X.env (eval e X.env) = eval e X.env := by rfl) (hline : (apos.endLine == cpos.line) = true := by rfl)
    (hs : starEach [.Call (.Attribute e "values" apos) [] [] cpos] X.env = (false, eval (.Call (.Attribute e "values" apos) [] [] cpos) X.env) :: starEach [] X.env := by rfl) : SE X cl W (.Call (.Name "list" p) [.Call (.Attribute e "values" apos) [] [] cpos] [] pos) (cUn dValsL c) := by
  refine PE.imp (pe_listVals hc he hg hm (by decide +kernel) hbase hline hs) fun σ H Q ⟨bs, s, e, S, N, h⟩ => ?_
  refine ⟨bs, s, e, S, N, (Run.bnd h).imp fun d b1 t1 H1 g1 S1 h1 v r1 => ?_⟩
  cases q : dtWr t1 d with
  | none =>
    refine (Run.of_no h1 ?_).elim
    cases d with
    | box j =>
      simp only [dtWr] at q
      unfold dValsL
      dsimp only
      cases q4 : t1[j]? with
      | none => rfl
      | some m =>
        rw [q4] at q
        cases m <;> first | rfl | (cases q; done)
    | _ => rfl
  | some kvs =>
    obtain ⟨j, a, ws, rfl, hj, rfl, hb, f2, f3⟩ := dt_wr S1 r1 q
    refine ⟨a, ws, rfl, f2, fun z nz => ?_⟩
    have hok : dValsL (.box j) t1 = .ok (.box t1.length) (t1 ++ [.lst (kvs.map (·.2))]) := by
      unfold dValsL
      simp only [hj]
      rfl
    have g := gr_box (o := .lst (ws.map (·.2))) S1 nz
    exact h1.of_ok hok (b1 ++ [z]) _ g (S1.push nz (kvt_vals f3)) _ (.box (push_at S1))
def rDClearT : V → List V → Hp → VK → Prop := fun x vs H Q => ∃ (a : Addr) (kvs : List (List Key × V)), x = .ref a ∧ vs = [] ∧ H a = some (.dT kvs) ∧ Q .non (upd H a (.dT []))
theorem mtd_clearT : MtR X "dict.clear" rDClearT := by
  intro pins s σ H x vs v us Q I rx rv h
  obtain ⟨a, kvs, ex, ev, e, q⟩ := h
  subst ex
  subst ev
  obtain rfl : v = Value.ref a := rx
  have hus := rv.zero
  subst hus
  obtain ⟨z, hd, xs, rel, dd⟩ := dt_of I.hok e
  obtain ⟨o, es, ep, ho, hex, hdat, hes, his, hnd⟩ := id dd
  refine call_meetsIn PySem.F.slot_dict_clear dd.typeIs PySem.F.entry_dict_clear (PySem.F.args_dict_clear_1 _) (PySem.meets_dict_clear_raw a) ⟨es, ep, ⟨o, ho, hex, hdat⟩, by rw [size_of_entries hes, ← Paired.length rel]; exact z, fun h' dd' hs => ?_⟩
  obtain ⟨o', ho', hex', hdat'⟩ := dd'
  exact ⟨.non, _, d_write (t' := s.toks) (ob := .dT []) I (by rw [e]; exact True.intro) hs ⟨o', ho'⟩ ⟨Nat.zero_le _, hd, [], .nil, o', #[], ep + 1, ho', hex', hdat', rfl, List.nodup_nil⟩, rfl, q⟩
theorem s_clearT {W : WX} {o : Expr} {co : CE} {apos cpos : Pos} (ho : SE X cl W o co) (hbase : attributeBase o "clear" X.env (eval o X.env) = eval o X.env := by rfl) (hline : (apos.endLine == cpos.line) = true := by rfl) : SE X cl W (.Call (.Attribute o "clear" apos) [] [] cpos) (cUn dClrT co) :=
  PE.imp (pe_bm0 PySem.F.plainAttrs_dict PySem.F.slot_dict_clear PySem.F.type_dict_clear mtd_clearT ho hbase hline) fun σ H Q ⟨bs, s, e, S, N, h⟩ => by
    refine ⟨bs, s, e, S, N, (Run.bnd h).imp fun d b1 t1 H1 g1 S1 h1 v r1 => ?_⟩
    cases q : dtWr t1 d with
    | none =>
      refine (Run.of_no h1 ?_).elim
      cases d with
      | box j =>
        simp only [dtWr] at q
        unfold dClrT
        dsimp only
        cases q4 : t1[j]? with
        | none => rfl
        | some m =>
          rw [q4] at q
          cases m <;> first | rfl | (cases q; done)
      | _ => rfl
    | some kvs =>
      obtain ⟨j, a, ws, rfl, hj, rfl, hb, f2, f3⟩ := dt_wr S1 r1 q
      refine ⟨.inr (.inr (.inl ⟨rfl, .inr ⟨ws, f2⟩⟩)), a, ws, rfl, rfl, f2, ?_⟩
      have hok : dClrT (.box j) t1 = .ok .non (t1.set j (.dt [])) := by
        unfold dClrT
        simp only [hj]
      exact h1.of_ok hok b1 _ (gr_write hb f2) (S1.write hb f2 (m := .dt []) (o := .dT []) .nil) _ .non
/-! ### tuple * 1 -/
theorem tuple_mulOne (l : Addr) (items : Array Value) (n : Nat) (dd : Option Addr) (sl : Array (Option Value)) (u : Tok) :
    Meets (Builtin.«tuple.__mul__» ⟨[.ref l, .int 1 u], []⟩) (fun _ R s => s.heap.get? l = some { cls := .type "tuple", dict := dd, data := .seq items n, slots := sl } ∧
      R (.ok (.ret (Value.ref l))) s) :=
  .of_wp fun prog w A R s h => by
    obtain ⟨hp, g, d, tk, os⟩ := s
    obtain ⟨hl, h⟩ := h
    have f1 := AutoSeq1.idx_int
    wp_walk using wpAny_loadPart' hl
    exact ⟨_, rfl, h⟩
def rRep1 (K : PySem.W.Frag) : R2 := fun x y H Q => ∃ l xs, x = .ref l ∧ y = .int 1 ∧ SqT K H l xs ∧ Q (.ref l) H
theorem op_rep1 : OpR X (binaryOp .Mult) (rRep1 X.K) := by
  intro pins s σ H x y v u Q I rx ry h
  obtain ⟨l, xs, rfl, rfl, hT, q⟩ := h
  cases rx
  obtain ⟨t, rfl⟩ := ry
  obtain ⟨its, r, ⟨⟨cls, dd, data, sl⟩, ho, hc, n, hd⟩, hs⟩ := I.tuple hT
  simp only at hc hd
  subst hc hd
  exact wpAny_binaryOp_repeat_ref (T := "tuple") (U := "int") (by decide) ⟨_, ho, rfl⟩ (fun s' => typeIs_int s' 1 t) noFill_tuple_mul F.fills_int_mul F.slot_int_rmul repeat_tuple F.slot_int_index.lookup
    (call_meets F.slot_int_rmul (typeIs_int s 1 t) F.entry_int_rmul (F.args_int_rmul_2 _ _) (int_rmul_tuple 1 t l its.toArray n dd sl)
      ⟨ho, rfl, ⟨_, ho, rfl⟩, call_meets F.slot_tuple_mul ⟨_, ho, rfl⟩ F.entry_tuple_mul (F.args_tuple_mul_2 _ _) (tuple_mulOne l its.toArray n dd sl t) ⟨ho, ⟨.ref l, H, I, rfl, q⟩⟩⟩)
theorem og_mulT : OpG X cl (binaryOp .Mult) dMulT := by
  refine ⟨_, (op_rep1 (X := X)).or op_repT, ?_⟩
  intro W bs s H x y v w Q S r1 r2 h
  have up : ∀ a o, hid bs H a = some o → H a = some o := fun a o e => (hid_some e).2
  cases x with
  | tup xs =>
    cases y with
    | int k =>
      obtain ⟨c, h⟩ := Run.ite (show Run X.K cl W bs s H (if xs ≠ [] ∧ 1 ≤ k ∧ k ≤ 1000 ∧ xs.length ≤ 1000 then (ret (D.tup (List.replicate k.toNat xs).flatten) : Cm D) else noC) _ from h)
      obtain ⟨c1, c2, c3, c4⟩ := c
      by_cases e1 : k = 1
      · subst e1
        have e : (List.replicate (1 : Int).toNat xs).flatten = xs := by simp
        rw [e] at h
        cases r1 with
        | tup h1 l1 => exact .inl ⟨_, _, rfl, r2.int_inv, sqT_mono up h1, Run.now S h _ (.tup h1 l1)⟩
      · cases r1 with
        | tup h1 l1 =>
          refine .inr ⟨_, k, _, rfl, r2.int_inv, sqT_mono up h1, ?_, by omega, c3, ?_, fun p hp => Run.newT S hp (l1.rep _) h⟩
          · intro e; subst e; cases l1; exact c1 rfl
          · rw [← l1.length]; exact c4
    | _ => exact (Run.of_no h rfl).elim
  | _ => exact (Run.of_no h rfl).elim
end
end G

set_option Elab.async false
set_option linter.all false
set_option maxRecDepth 100000
set_option maxHeartbeats 4000000
/-! G, soundness: loops over the keys of a dict by tuples: it is locked meanwhile; d.get(k) -/
namespace G
open PySem L2 PySem.Spec PyProof.Rows
section
variable {X : Cx} {cl : Str → Addr} {W : WX} {p : Pos}
theorem keysD_rp {K : PySem.W.Frag} {bs : List Addr} {H : Hp} : ∀ k : List Key, RpL K cl bs H (k.map keyD) (k.map kV)
  | [] => .nil
  | k :: ks => .cons (keyD_rp k) (keysD_rp ks)
theorem kvrt_get {K : PySem.W.Frag} {bs : List Addr} {H : Hp} {ps : List (List Key × D)} {qs : List (List Key × V)} (r : KvR K cl bs H ps qs) : ∀ {i : Nat} {k : List Key} {v : V}, qs[i]? = some (k, v) → ∃ d, ps[i]? = some (k, d) ∧ Rp K cl bs H d v := by
  unfold KvR at r
  induction r with
  | nil => intro i k v h; simp at h
  | @cons p q ps qs h t ih =>
    intro i k v h'
    cases i with
    | zero =>
      simp at h'
      subst h'
      have h1 : p.1 = k := h.1
      exact ⟨p.2, by rw [List.getElem?_cons_zero, ← h1], h.2⟩
    | succ n => simpa using ih (by simpa using h')
theorem tup_noBox {K : PySem.W.Frag} {bs : List Addr} {s : Sto} {H : Hp} (S : StR K cl bs s H) {q : Addr} {xs : List V} (h : H q = some (.tup xs)) : q ∉ bs := fun hq => by
  obtain ⟨j, hj⟩ := List.getElem?_of_mem hq
  obtain ⟨m, o, _, ho, r⟩ := S.box hj
  rw [h] at ho
  cases ho
  cases m with
  | exo c k fs =>
    obtain ⟨a, dx, _, e, _⟩ := (show ∃ (a : Addr) (dx : Option Addr), bs[k]? = some a ∧ HO.tup xs = xo a (cl c) dx ∧ (fs = [] → dx = none) ∧ (fs ≠ [] → ∃ dd gs, dx = some dd ∧ hid bs H dd = some (.xd gs) ∧ FsR K cl bs H fs gs) from r)
    cases e
  | _ => exact (show False from r).elim
theorem itOf_kt {K : PySem.W.Frag} {j : Nat} {p : Addr} {od : Obj} {ws : List (List Key × V)} {b0 : List Addr} {H0 : Hp} (hb : b0[j]? = some p) (hp : H0 p = some (.frz od (.dT ws))) : ItOf K cl (.dkeysT j) b0 H0 (Itkt p od ws) := by
  intro bs s H all g S e i
  have hp' := g.fz _ _ _ hp
  have e : (match s[j]? with | some (.ft kvs) => some (kvs.map fun kv => D.tup (kv.1.map keyD)) | _ => none) = some all := e
  cases q : s[j]? with
  | none => simp only [q] at e; cases e
  | some m =>
    cases m with
    | ft kvs =>
      simp only [q] at e
      cases e
      obtain ⟨p', o, f1, f2, f3⟩ := S.at_ _ _ q
      rw [g.at hb] at f1
      cases f1
      rw [hp'] at f2
      cases f2
      have f3 : KvR K cl bs H kvs ws := f3
      have hl := kvt_len f3
      rw [List.length_map]
      refine ⟨fun hi => ⟨⟨hp', by omega⟩, fun x H' y => ?_⟩, fun hi => ⟨hp', by omega⟩⟩
      obtain ⟨rfl, k, v, qq, e1, rfl, e2⟩ := y
      obtain ⟨d, h1, h2⟩ := kvrt_get f3 e1
      refine ⟨Gr.refl _ _, S, .tup (k.map keyD), by rw [List.getElem?_map, h1]; rfl, ?_⟩
      exact .tup (.inl (.inl (hid_of (tup_noBox S e2) e2))) (keysD_rp k)
    | _ => simp only [q] at e; cases e
theorem i_keysT {x : Str} (i : Nat) {tg : Expr} (hN : X.N[i]? = some x := by rfl) (hv : Vis X.env.scope x := by first | exact Or.inl rfl | exact Or.inr (Or.inl rfl) | exact Or.inr (Or.inr rfl)) (hd : (x == ("__debug__" : Str)) = false := by decide) (hcd : (x == ("__classdict__" : Str)) = false := by decide) : SI X cl W tg (.Name x p) (iKeysT i) :=
  PI.imp (pi_keys (pe_var hN hv hd hcd)) fun σ H R ⟨bs, s, e, S, N, h⟩ => by
    cases q : sl e i with
    | none => exact (Run.of_no h (by unfold iKeysT; simp only [q])).elim
    | some d =>
      cases d with
      | box j =>
        cases q2 : s[j]? with
        | none => exact (Run.of_no h (by unfold iKeysT; simp only [q, q2])).elim
        | some m =>
          cases m with
          | ft kvs =>
            obtain ⟨p, o, f1, f2, f3⟩ := S.at_ _ _ q2
            cases o with
            | frz od u =>
              cases u with
              | dT ws =>
                obtain ⟨v, h1, r⟩ := N.at_ i _ (sl_get.mp q)
                cases r with
                | box hb =>
                  rw [f1] at hb
                  cases hb
                  exact ⟨_, h1, _, od, rfl, .inr ⟨ws, f2, h.of_ok (a := .dkeysT j) (t := s) (by unfold iKeysT; simp only [q, q2]) bs H (Gr.refl _ _) S _ (itOf_kt f1 f2)⟩⟩
              | _ => exact (show False from f3).elim
            | _ => exact (show False from f3).elim
          | _ => exact (Run.of_no h (by unfold iKeysT; simp only [q, q2])).elim
      | _ => exact (Run.of_no h (by unfold iKeysT; simp only [q])).elim
theorem StR.unlockT {K : PySem.W.Frag} {bs : List Addr} {t : Sto} {H : Hp} {j : Nat} {p : Addr} {kvs : List (List Key × D)} {ws : List (List Key × V)} (S : StR K cl bs t H) (hp : bs[j]? = some p) (hq : t[j]? = some (.ft kvs)) (hH : ∃ od, H p = some (.frz od (.dT ws))) : StR K cl bs (t.set j (.dt kvs)) (upd H p (.dT ws)) := by
  have eh : ∀ a o, hid bs H a = some o → hid bs (upd H p (.dT ws)) a = some o := fun a o e => by
    obtain ⟨n, e⟩ := hid_some e
    refine hid_of n ?_
    rw [upd_ne (fun q => n (by rw [q]; exact List.mem_of_getElem? hp))]
    exact e
  obtain ⟨p', o', f1, f2, f3⟩ := S.at_ _ _ hq
  rw [hp] at f1
  cases f1
  obtain ⟨od, hH⟩ := hH
  rw [hH] at f2
  cases f2
  have f3 : KvR K cl bs H kvs ws := f3
  refine ⟨by simp [S.len], S.nd, fun i m' e => ?_⟩
  by_cases hi : i = j
  · subst hi
    have hl : i < t.length := by rw [← S.len]; exact (List.getElem?_eq_some_iff.mp hp).1
    rw [List.getElem?_set_self hl] at e
    cases e
    exact ⟨p, _, hp, upd_same, MoR.up (m := .dt kvs) (o := .dT ws) eh (fun _ _ z => z) f3⟩
  · rw [List.getElem?_set_ne (Ne.symm hi)] at e
    obtain ⟨q, u, hq, hu, r'⟩ := S.at_ i m' e
    have ne : q ≠ p := fun z => by
      subst z
      obtain ⟨h1, e1⟩ := List.getElem?_eq_some_iff.mp hq
      obtain ⟨h2, e2⟩ := List.getElem?_eq_some_iff.mp hp
      exact hi ((List.getElem_inj S.nd).mp (e1.trans e2.symm))
    exact ⟨q, u, hq, by rw [upd_ne ne]; exact hu, r'.up eh fun _ _ z => z⟩
/-- from ahead of the lock to behind it -/
theorem gr_unlockT {bs b1 : List Addr} {H H1 : Hp} {p : Addr} {od : Obj} {ws : List (List Key × V)} (hp : p ∈ bs) (h : H p = some (.dT ws)) (g : Gr bs (upd H p (.frz od (.dT ws))) b1 H1) : Gr bs H b1 (upd H1 p (.dT ws)) := ⟨g.pre, (fun a o e n => by
  have ne : a ≠ p := fun q => n (by rw [q]; exact hp)
  obtain ⟨h1, h2⟩ := g.keep a o (by rw [upd_ne ne]; exact e) n
  exact ⟨by rw [upd_ne ne]; exact h1, h2⟩), fun a ob x e => by
  have ne : a ≠ p := fun q => by subst q; rw [h] at e; cases e
  rw [upd_ne ne]
  exact g.fz a ob x (by rw [upd_ne ne]; exact e)⟩
theorem lock_atT {K : PySem.W.Frag} {bs : List Addr} {s : Sto} {H : Hp} {j : Nat} {kvs : List (List Key × D)} (S : StR K cl bs s H) (q : s[j]? = some (.dt kvs)) : ∃ p ws, bs[j]? = some p ∧ H p = some (.dT ws) ∧ ∀ od, Gr bs H bs (upd H p (.frz od (.dT ws))) ∧ StR K cl bs (s.set j (.ft kvs)) (upd H p (.frz od (.dT ws))) := by
  obtain ⟨p, o, f1, f2, f3⟩ := S.at_ _ _ q
  cases o with
  | dT ws => exact ⟨p, ws, f1, f2, fun od => ⟨gr_write f1 f2, S.write f1 f2 (m := .ft kvs) (o := .frz od (.dT ws)) f3⟩⟩
  | _ => exact (show False from f3).elim
theorem ss_lockT {st : Stmt} {i : Nat} {c : CS} (h : SS X cl W st c) : SS X cl W st (sLockT i c) := PS.imp (ps_lock h) fun E σ H ⟨bs, s, e, S, N, h⟩ => by
  cases q : sl e i with
  | none => exact (Run.of_no h (by unfold sLockT; simp only [q])).elim
  | some d =>
    cases d with
    | box j =>
      cases q2 : s[j]? with
      | none => exact (Run.of_no h (by unfold sLockT; simp only [q, q2])).elim
      | some m =>
        cases m with
        | dt kvs =>
          obtain ⟨p, ws, f1, f2, lk⟩ := lock_atT S q2
          refine ⟨p, .dT ws, f2, trivial, fun od => ?_⟩
          obtain ⟨g1, S1⟩ := lk od
          refine ⟨bs, _, e, S1, N.fz (List.mem_of_getElem? f1), ?_⟩
          unfold Run at h ⊢
          unfold sLockT at h
          simp only [q, q2] at h
          cases q3 : c e (s.set j (.ft kvs)) with
          | no => rw [q3] at h; exact h
          | ex cc fs t => rw [q3] at h; exact h.elim
          | ok fl t =>
            rw [q3] at h
            by_cases cc : t[j]? = some (.ft kvs) ∧ (∀ c fs e', fl ≠ .ex c fs e')
            · simp only [if_pos cc] at h
              intro b1 H1 g2 S2
              have hf : H1 p = some (.frz od (.dT ws)) := g2.fz _ _ _ upd_same
              have hb := g2.at f1
              have S3 := S2.unlockT hb cc.1 ⟨od, hf⟩
              have k := h b1 _ (gr_unlockT (List.mem_of_getElem? f1) f2 g2) S3
              have up := up_eh (H := H1) (o := .dT ws) (List.mem_of_getElem? hb)
              cases fl with
              | nx e' => exact fun σ' N' => ⟨hf, k σ' (N'.fz (List.mem_of_getElem? hb))⟩
              | rt d => exact fun v r => ⟨hf, k v (r.up up fun _ _ z => z)⟩
              | bk e' => exact fun σ' N' => ⟨hf, k σ' (N'.fz (List.mem_of_getElem? hb))⟩
              | ct e' => exact fun σ' N' => ⟨hf, k σ' (N'.fz (List.mem_of_getElem? hb))⟩
              | ex c fs e' => exact absurd rfl (cc.2 c fs e')
            · simp only [if_neg cc] at h
        | _ => exact (Run.of_no h (by unfold sLockT; simp only [q, q2])).elim
    | _ => exact (Run.of_no h (by unfold sLockT; simp only [q])).elim
end
end G

set_option Elab.async false
set_option linter.all false
set_option maxRecDepth 100000
set_option maxHeartbeats 4000000
/-! G, soundness: a range with a written step; `in` of a table of the module -/
namespace G
open PySem L2 PySem.Spec PyProof.Rows
section
variable {X : Cx} {cl : Str → Addr} {W : WX} {ca cb : CE} {tg : Expr} {p pos : Pos} {a b : Expr}
theorem itOf_rc {K : PySem.W.Frag} {lo c : Int} {n : Nat} {b0 : List Addr} {H0 : Hp} : ItOf K cl (.rngC lo c n) b0 H0 (Itc lo c n) := by
  intro bs s H all g S e i
  cases e
  rw [List.length_map, List.length_range]
  refine ⟨fun hi => ⟨hi, fun x H' y => ?_⟩, fun hi => Nat.le_of_eq hi.symm⟩
  obtain ⟨rfl, rfl⟩ := y
  exact ⟨Gr.refl _ _, S, _, by rw [List.getElem?_map, List.getElem?_range hi]; rfl, .int _⟩
theorem rgC_of {i j c : Int} (c0 : 0 < c) (c1 : c < 1000000) (h : -(2 ^ 61) ≤ i ∧ i < 2 ^ 61 ∧ -(2 ^ 61) ≤ j ∧ j < 2 ^ 61) : RgC i j c ((j - i + c - 1) / c).toNat := by
  have hsz : Builtin.Range.rangeSize i j c = (((j - i + c - 1) / c).toNat : Int) := by
    unfold Builtin.Range.rangeSize
    rw [if_pos c0]
    split
    · rename_i hij
      have e : (j - i + c - 1) / c = (j - i - 1) / c + 1 := by
        rw [show j - i + c - 1 = (j - i - 1) + c by omega, Int.add_ediv_of_dvd_right (Int.dvd_refl c), Int.ediv_self (by omega)]
      have : 0 ≤ (j - i - 1) / c := Int.ediv_nonneg (by omega) (by omega)
      rw [e]
      omega
    · rename_i hij
      have : (j - i + c - 1) / c ≤ 0 := by
        have h1 : (j - i + c - 1) / c ≤ (c - 1) / c := Int.ediv_le_ediv c0 (by omega)
        have h2 : (c - 1) / c = 0 := Int.ediv_eq_zero_of_lt (by omega) (by omega)
        omega
      omega
  refine ⟨by omega, by omega, ?_, hsz⟩
  have hle : (((j - i + c - 1) / c).toNat : Int) ≤ 2 ^ 62 + 1000000 := by
    by_cases hij : i < j
    · have h0 : 0 ≤ (j - i + c - 1) / c := Int.ediv_nonneg (by omega) (by omega)
      have h1 : (j - i + c - 1) / c * c ≤ j - i + c - 1 := Int.ediv_mul_le _ (by omega)
      have h2 : (j - i + c - 1) / c ≤ (j - i + c - 1) / c * c := by
        have := Int.mul_le_mul_of_nonneg_left (show (1 : Int) ≤ c by omega) h0
        omega
      rw [Int.toNat_of_nonneg h0]
      generalize (j - i + c - 1) / c * c = m at *
      generalize (j - i + c - 1) / c = q at *
      omega
    · have h1 : (j - i + c - 1) / c ≤ (c - 1) / c := Int.ediv_le_ediv c0 (by omega)
      have h2 : (c - 1) / c = 0 := Int.ediv_eq_zero_of_lt (by omega) (by omega)
      rw [show ((j - i + c - 1) / c).toNat = 0 by omega]
      omega
  have hn0 : 0 ≤ (((j - i + c - 1) / c).toNat : Int) := Int.natCast_nonneg _
  unfold Builtin.Range.small
  rw [hsz]
  generalize (((j - i + c - 1) / c).toNat : Int) = n at *
  simp only [Builtin.Range.rangeFitsLong, Bool.and_eq_true, Bool.or_eq_true, decide_eq_true_eq, beq_iff_eq, gt_iff_lt, c0, if_true]
  omega
/-- range(a, b, c), c written -/
theorem i_rngS {c : Int} {ce : Expr} (hg : Gl X "range") (hm : X.mg "range" = none) (ha : SE X cl W a ca) (hb : SE X cl W b cb) (hc : SE X cl W ce (cK (.int c))) (c0 : 0 < c := by decide) (c1 : c < 1000000 := by decide)
    (hs : starEach [a, b, ce] X.env = (false, eval a X.env) :: starEach [b, ce] X.env := by rfl) (hs2 : starEach [b, ce] X.env = (false, eval b X.env) :: starEach [ce] X.env := by rfl) (hs3 : starEach [ce] X.env = (false, eval ce X.env) :: starEach [] X.env := by rfl)
    (hpl : (backTo pos (starEach [b, ce] X.env)).any (·.1) = false := by rfl) : SI X cl W tg (.Call (.Name "range" p) [a, b, ce] [] pos) (iRngS ca cb c) :=
  PI.imp (pi_range3 hg hm (pa_cons ha (pa_cons hb (pa_cons hc pa_nil hs3) hs2) hs) hs hpl) fun σ H R ⟨bs, s, e, S, N, h⟩ => by
    refine ⟨bs, s, e, S, N, (Run.bnd h).imp fun d b1 t1 H1 g1 S1 h1 v r1 => ⟨b1, t1, e, S1, N.mono g1, (Run.bnd h1).imp fun d2 b2 t2 H2 g2 S2 h2 w r2 => ?_⟩⟩
    cases d with
    | int i =>
      cases d2 with
      | int j =>
        obtain ⟨q, h2⟩ := Run.ite h2
        refine ⟨b2, t2, e, S2, (N.mono g1).mono g2, ?_⟩
        exact fun b3 H3 g3 S3 v3 r3 => ⟨i, j, c, _, by rw [r1.int_inv, r2.int_inv, r3.int_inv], rgC_of c0 c1 q, h2 b3 H3 g3 S3 _ itOf_rc⟩
      | _ => exact (show False from h2).elim
    | _ => exact (show False from h2).elim
end
section
variable {X : Cx} {cl : Str → Addr} {W : WX} {cb : CE} {p pos : Pos} {b : Expr} {K : PySem.W.Frag} {mg : Str → Option Value} {x : Str} {w : World} {tbl : List (Str × D)}
theorem tabIn_run (k : Kd K w.params mg x tbl) (hK : X.K = K) (hw : X.w = w) {neg : Bool} : ∃ a es n, mg x = some (.ref a) ∧ KDict X.K X.w a es n ∧ ∀ σ H Q, TEof X.K cl W (cUn (tabIn neg tbl) cb) σ H Q →
    TEof X.K cl W cb σ H fun v H' => ∃ (z : Str) (r : Option Value), v = .str z ∧ PySem.W.nsIn X.K a z = some r ∧ Q (.bl (if neg then !r.isSome else r.isSome)) H' := by
  subst hK hw
  obtain ⟨a, es, n, h1, h2, h3, h4⟩ := k.ex
  refine ⟨a, es, n, h1, ⟨h2, h3.lit, h4⟩, fun σ H Q ⟨bs, s, e, S, N, h⟩ => ?_⟩
  refine ⟨bs, s, e, S, N, (Run.bnd h).imp fun d b1 t1 H1 g1 S1 k1 v r1 => ?_⟩
  cases d with
  | str z =>
    rcases h3.find z with ⟨q1, q2⟩ | ⟨d, v', en, q1, q2, q3⟩
    · have k1 : Run X.K cl (fun u dx H' => W u dx σ H') b1 t1 H1 (ret (.bl (if neg then !(tabV tbl z).isSome else (tabV tbl z).isSome))) (fun d bs' _ H' => ∀ v, Rp X.K cl bs' H' d v → Q v H') := k1
      rw [q1] at k1
      exact ⟨z, none, r1.str_inv, ns_none h2 q2 h3.plain, Run.now S1 k1 _ (.bl _)⟩
    · have k1 : Run X.K cl (fun u dx H' => W u dx σ H') b1 t1 H1 (ret (.bl (if neg then !(tabV tbl z).isSome else (tabV tbl z).isSome))) (fun d bs' _ H' => ∀ v, Rp X.K cl bs' H' d v → Q v H') := k1
      rw [q1] at k1
      exact ⟨z, some en.val, r1.str_inv, ns_some h2 q2, Run.now S1 k1 _ (.bl _)⟩
  | _ => exact (show False from k1).elim
/-- e in NAME, NAME a table: as a test -/
theorem zt_tabIn (k : Kd K w.params mg x tbl) (hK : X.K = K) (hw : X.w = w) (hmg : X.mg = mg) (hg : Gl X x) (hb : SE X cl W b cb) (hd : (x == ("__debug__" : Str)) = false := by decide) (hm : behindInMarks .In (.Name x p) = false := by rfl) :
    ST X cl W (.Compare b [.In] [.Name x p] pos) (tE (cUn (tabIn false tbl) cb)) := by
  obtain ⟨a, es, n, h1, D, h⟩ := tabIn_run (cl := cl) (W := W) (cb := cb) (X := X) k hK hw (neg := false)
  refine PT.imp (pt_cmpR (op_in_kd D) hb (pe_glob hg (by rw [hmg]; exact h1) (v := .ref a) rfl hd) hm) fun σ H Q q => tTest_of (t := fun σ H Q => tOp _ (TEof X.K cl W cb) _ σ H Q) (fun Q q => ?_) q
  obtain ⟨bs, s, e, S, N, q⟩ := h σ H Q q
  refine ⟨bs, s, e, S, N, q.imp fun d b1 t1 H1 g1 S1 k1 v r1 => ?_⟩
  obtain ⟨z, r, e1, e2, e3⟩ := k1 v r1
  exact ⟨z, r, e1, rfl, e2, e3⟩
end
section
variable {X : Cx} {cl : Str → Addr} {W : WX}
/-- d.get(k) of a dict -/
theorem s_getN {o e : Expr} {co ce : CE} {apos cpos : Pos} (hu : X.A.units + 1 < cLine) (ho : SE X cl W o co) (he : SE X cl W e ce) (m : M1 X o "get" apos e cpos) : SE X cl W (.Call (.Attribute o "get" apos) [e] [] cpos) (cGetN co ce) :=
  PE.imp (pe_dget1 hu ho he m) fun σ H Q ⟨bs, s, e, S, N, h⟩ => by
    refine ⟨bs, s, e, S, N, (Run.bnd h).imp fun x b1 t1 H1 g1 S1 h1 v r1 => ?_⟩
    cases q : dkAt t1 x with
    | none => exact (Run.of_no (Run.bnd h1) (by unfold chkD; simp only [q])).elim
    | some kvs =>
      have h1 := (Run.bnd h1).of_ok (a := ()) (t := t1) (by unfold chkD; simp only [q]) b1 H1 (Gr.refl _ _) S1
      obtain ⟨p, ws, ev, f2, f3⟩ := dk_at S1 r1 q
      refine ⟨p, ev, .inl ⟨ws, f2⟩, b1, t1, e, S1, N.mono g1, (Run.bnd h1).imp fun y b2 t2 H2 g2 S2 h2 w r2 => ?_⟩
      cases q3 : dkAt t2 x with
      | none => exact (Run.of_no h2 (by unfold dGetD; simp only [q3])).elim
      | some kvs3 =>
        cases ky : keyOf y with
        | none => exact (Run.of_no h2 (by unfold dGetD; simp only [q3, ky])).elim
        | some k =>
          have rx := r1.mono g2
          obtain ⟨p', ws3, ev3, f4, f5⟩ := dk_at S2 rx q3
          rw [ev] at ev3
          cases ev3
          have hw := key_at r2 ky
          subst hw
          have fin := h2.of_ok (a := (valD kvs3 k).getD .non) (t := t2) (by unfold dGetD; simp only [q3, ky]) b2 H2 (Gr.refl _ _) S2
          refine ⟨valV ws3 k, dget_rd f4, fin _ ?_⟩
          rcases kvr_val f5 k with ⟨z1, z2⟩ | ⟨d, v', z1, z2, z3⟩
          · rw [z1, z2]; exact .non
          · rw [z1, z2]; exact z3
end
/-! comprehensions with a target of three -/
theorem stAll_three {e e' : En} {i j k : Nat} {ds : List D} (h : stAll e [i, j, k] ds = some e') : ∃ a b c, ds = [a, b, c] ∧ e' = st (st (st e i (some a)) j (some b)) k (some c) := by
  cases ds with
  | nil => cases h
  | cons a ds =>
    cases ds with
    | nil => cases h
    | cons b ds =>
      cases ds with
      | nil => cases h
      | cons c ds =>
        cases ds with
        | nil => cases h; exact ⟨a, b, c, rfl, rfl⟩
        | cons d ds => cases h
theorem rpl_three {K : PySem.W.Frag} {cl : Str → Addr} {bs : List Addr} {H : Hp} {a b c : D} {vs : List V} (h : RpL K cl bs H [a, b, c] vs) : ∃ x y z, vs = [x, y, z] ∧ Rp K cl bs H a x ∧ Rp K cl bs H b y ∧ Rp K cl bs H c z := by
  cases h with
  | cons r1 h =>
    cases h with
    | cons r2 h =>
      cases h with
      | cons r3 h =>
        cases h
        exact ⟨_, _, _, rfl, r1, r2, r3⟩
theorem cg_three {K : PySem.W.Frag} {cl : Str → Addr} {vs : List Nat} {i j k : Nat} (h : i ∈ vs) (h' : j ∈ vs) (h'' : k ∈ vs) : CG K cl vs (.t [i, j, k]) (gTup K 3 (gCons (gName i) (gCons (gName j) (gCons (gName k) gNil)))) := fun bs s e d e' v σ H Q S N r e1 kk => by
  cases d with
  | tup ds =>
    obtain ⟨a, b, c, rfl, rfl⟩ := stAll_three (show stAll e [i, j, k] ds = some e' from e1)
    cases r with
    | @tup _ p us q1 q2 =>
      obtain ⟨x, y, z, rfl, r1, r2, r3⟩ := rpl_three q2
      refine ⟨p, [x, y, z], rfl, sqT_mono (fun a o e => (hid_some e).2) q1, rfl, x, [y, z], rfl, y, [z], rfl, z, [], rfl, rfl, ?_⟩
      exact kk _ (((N.set i r1).set j r2).set k r3) (by rw [wipe_set.1 h'', wipe_set.1 h', wipe_set.1 h])
  | _ => cases e1
section
open PySem.SeqAt (EqIn EqAt)
variable {X : Cx} {cl : Str → Addr}
def rEqL4 (K : PySem.W.Frag) : R2 := fun x y H Q => ∃ a b xs ys, x = .ref a ∧ y = .ref b ∧ SqL K H a xs ∧ SqL K H b ys ∧ xs.length = ys.length ∧ (∀ (i : Nat) v w, xs[i]? = some v → ys[i]? = some w → Sim K H 8 v w) ∧ Q (.bl true) H
theorem op_eqL4 (hu : X.A.units + 64 < cLine) : OpR X (compareOp .Eq) (rEqL4 X.K) := by
  intro pins s σ H x y v u Q I rx ry h
  obtain ⟨a, b, xs, ys, rfl, rfl, h1, h2, hl, hp, q⟩ := h
  obtain rfl : v = Value.ref a := rx
  obtain rfl : u = Value.ref b := ry
  obtain ⟨i1, v1, ⟨o1, n1, ho1, hc1, _, hd1⟩, _⟩ := I.list h1
  obtain ⟨i2, v2, ⟨o2, n2, ho2, hc2, _, hd2⟩, _⟩ := I.list h2
  refine SeqAt.rcIn_lists (items := i1.toArray) (items2 := i2.toArray) (e := fun _ => true) ⟨o1, ho1, hc1, n1, hd1⟩ ⟨o2, ho2, hc2, n2, hd2⟩ (by simpa using (show i1.length = i2.length by rw [← v1.length, ← v2.length, hl])) (by omega) (fun j j1 j2 => ?_) ⟨.bl true, H, I, ?_, q⟩
  · obtain ⟨x, x1, x2⟩ := vals_at v1 (j := j) (by simpa using j1)
    obtain ⟨y, y1, y2⟩ := vals_at v2 (j := j) (by simpa using j2)
    exact sim_in I (hp j x y x1 y1) _ _ _ (by show X.A.units + 1 + 8 < cLine; omega) (by simpa using x2) (by simpa using y2)
  · have : (List.range i1.toArray.size).all (fun _ => true) = true := by simp
    rw [this]
    rfl
theorem og_eq4 (hu : X.A.units + 64 < cLine) : OpG X cl (compareOp .Eq) dEq4 := by
  refine ⟨_, op_eqL4 hu, ?_⟩
  intro W bs s H x y v w Q S r1 r2 h
  by_cases c : simTL s x y = true
  · have q := Run.of_ok h (a := .bl true) (t := s) (by unfold dEq4; rw [if_pos c]) bs H (Gr.refl _ _) S _ (.bl _)
    cases x with
    | box i =>
      cases y with
      | box j =>
        cases e1 : lAt s i with
        | none => simp [simTL, e1] at c
        | some xs =>
          cases e2 : lAt s j with
          | none => simp [simTL, e1, e2] at c
          | some ys =>
            have c : simL (simD s 8) xs ys = true := by simpa [simTL, e1, e2] using c
            obtain ⟨p, vs, rfl, _, a2, a3⟩ := S.lst e1 r1
            obtain ⟨p', ws, rfl, _, b2, b3⟩ := S.lst e2 r2
            obtain ⟨e, g⟩ := simL_ok (T := Sim X.K H 8) (fun x y v w e p q => simD_ok S 8 x y v w e p q) c a3 b3
            exact ⟨_, _, _, _, rfl, rfl, SqL.of a2, SqL.of b2, e, g, q⟩
      | _ => simp [simTL] at c
    | _ => simp [simTL] at c
  · exact (Run.of_no h (by unfold dEq4; rw [if_neg c])).elim
end
end G

set_option Elab.async false
set_option linter.all false
set_option maxRecDepth 100000
set_option maxHeartbeats 4000000
/-! G, soundness: defs with a default that is an int -/
namespace G
open PySem L2 PySem.Spec PyProof.Rows
theorem fn_mkRD {P : Program} {w : World} {K : PySem.W.Frag} {mg : Str → Option Value} {base : Heap} {cl : Str → Addr} {x qual : Str} {st : Stmt} {f : Addr} {fd : FuncData} {N ps : List Str} {k n m : Nat} {c : CS} {dvs : List V} (F : FunD K x qual (defArgs st) (defBody st) (defScope st) dvs [] f fd) (S : FnScope N ps (defScope st))
    (hn : ps.length = n) (hN : N.length = m)
    (body : ∀ (cdv : Value) (A : Around) (outer : List PySem.Env) (s : Shared) (H : Hp) (E : XK), Room k (A.deeper (envOfC qual (defScope st) s.heap.objs.size f cdv)) →
      SSs (cxOf (L2.CX P w) P w K mg base N qual (defScope st) f cdv A outer s H E) cl (WR E) (defBody st) c) : FnOk P w K mg base (L2.CX P w) (k + 1) f fd ps (spOf K cl (fun E => E) n (dfr n m c)) := by
  refine FunD.ok (CX := L2.CX P w) F S (fun vs H Q E h => by rw [spOf_len h, hn]) fun cdv A outer s H vs Q E hr h => ?_
  refine ⟨_, body cdv A outer s H E hr, ?_⟩
  obtain ⟨bs, t, ds, h1, S1, r1, h2⟩ := h
  have e : dfr n m c ds = bnd (noX (c (ds.map some ++ List.replicate (m - n) none))) (fun fl => match fl with
      | .nx _ => ret .non
      | .rt d => ret d
      | .ex c fs _ => fun s => .ex c fs s
      | .bk _ => noC
      | .ct _ => noC) := by
    unfold dfr
    rw [if_pos h1]
    all_goals rfl
  rw [e] at h2
  have h3 : Run K cl F0 bs t H (c (ds.map some ++ List.replicate (m - n) none)) (fun fl b1 t1 H1 => Run K cl E b1 t1 H1 ((fun fl => match fl with
      | .nx _ => ret .non
      | .rt d => ret d
      | .ex c fs _ => fun s => .ex c fs s
      | .bk _ => noC
      | .ct _ => noC : Fl → Cm D) fl) (fun d bs' _ H' => ∀ v, Rp K cl bs' H' d v → Q v H')) := by
    have h3 := Run.bnd h2
    unfold Run at h3 ⊢
    unfold noX at h3
    cases q : c (ds.map some ++ List.replicate (m - n) none) t with
    | ok a t => rw [q] at h3; exact h3
    | ex cc fs t => rw [q] at h3; exact h3.elim
    | no => rw [q] at h3; exact h3
  refine ⟨bs, t, _, S1, ⟨?_, fun i d q => ?_⟩, h3.imp fun fl b1 t1 H1 g1 S2 k1 => ?_⟩
  · unfold L2.start
    simp only [List.length_append, List.length_map, List.length_replicate]
    rw [r1.length, hN, ← h1, r1.length]
  · unfold L2.start
    by_cases hi : i < ds.length
    · rw [List.getElem?_append_left (by simpa using hi), List.getElem?_map] at q
      cases e1 : ds[i]? with
      | none => rw [e1] at q; cases q
      | some d' =>
        rw [e1] at q
        obtain ⟨v, hv, rv⟩ := r1.get e1
        cases q
        exact ⟨v, by rw [List.getElem?_append_left (by rw [List.length_map, ← r1.length]; exact hi), List.getElem?_map, hv]; rfl, rv⟩
    · rw [List.getElem?_append_right (by simpa using hi)] at q
      have := List.mem_of_getElem? q
      rw [List.mem_replicate] at this
      cases this.2
  · cases fl with
    | nx e' => exact fun σ' N' => Run.now S2 k1 _ .non
    | rt d => exact fun v r => Run.now S2 k1 _ r
    | bk e' => exact (Run.of_no k1 rfl).elim
    | ct e' => exact (Run.of_no k1 rfl).elim
    | ex cn fs e' => exact fun σ' u dx N' X1 => (show Run K cl E b1 t1 H1 (fun s => .ex cn fs s) _ from k1) b1 H1 u dx (Gr.refl _ _) S2 X1

/-- a def with defaults es: the promise of g for a call with all arguments, and for one without the last ones -/
structure DfV (Y : Wd) (x : Str) (k n : Nat) (es : List D) (g : List D → Cm D) : Prop where
  full : Df Y x k n g
  ex : ∃ f fd ps us vs, Y.mg x = some (.ref f) ∧ PySem.W.keepIn Y.K (.ref f) = true ∧ Binds Y.K fd ps us ∧ Vals vs us ∧ (∀ bs H, RpL Y.K Y.cl bs H es vs) ∧ ps.length = n ∧ FnOk Y.P Y.w Y.K Y.mg Y.base Y.CX k f fd ps (spOf Y.K Y.cl Y.F n g)
section
variable {X : Cx} {cl : Str → Addr} {P : Program} {w : World} {K : PySem.W.Frag} {mg : Str → Option Value} {base : Heap} {k n : Nat} {g : List D → Cm D} {x : Str} {e0 : Expr} {es : List Expr} {ed : List D} {aa : CA} {p pos : Pos} {W : WX}
theorem s_callD {Y : Wd} {k n : Nat} {g : List D → Cm D} (d : DfV Y x k n ed g) (tk : Lets Y X W) (hr : Room k X.A) (hg : Gl X x) (ha : SA X Y.cl W (e0 :: es) aa) (hdb : (x == ("__debug__" : Str)) = false := by decide)
    (he : starEach (e0 :: es) X.env = (false, eval e0 X.env) :: starEach es X.env := by rfl) (hpl : (backTo pos (starEach es X.env)).any (·.1) = false := by rfl) : SE X Y.cl W (.Call (.Name x p) (e0 :: es) [] pos) (cCall (withD ed g) aa) := by
  obtain ⟨YP, Yw, YK, Ymg, Yb, YCX, Ycl, YF⟩ := Y
  obtain ⟨e1, e2, e3, e4, e5, pa, im⟩ := tk
  obtain ⟨Xp, Xw, XK, Xmg, Xb, XA, XN, Xs0, XH0, Xenv, Xo, Xst, Xex, Xfn, Xc, Xpn, Xxe⟩ := X
  simp only at e1 e2 e3 e4 e5
  subst e1 e2 e3 e4 e5
  obtain ⟨f, fd, ps, us, dv, hm, hk, hb, hv, hr2, hl, F⟩ := d.ex
  refine PE.imp (pe_callSD (E := fun σ u d H => W u d σ H) F hr hg hm hk hb hv pa ha hdb he hpl) fun σ H Q ⟨bs, s, e, S, N, h⟩ => ?_
  refine ⟨bs, s, e, S, N, (Run.bnd h).imp fun ds b1 t1 H1 g1 S1 h1 vs r1 => ?_⟩
  show spOf _ _ _ n g (vs ++ dv) H1 Q _
  by_cases hlen : (ds ++ ed).length = n
  · exact ⟨b1, t1, ds ++ ed, hlen, S1, r1.append (hr2 b1 H1), (show Run _ _ _ _ _ _ (g (ds ++ ed)) _ from h1).wish (im σ)⟩
  · exact (Run.of_no h1 (d.full.ar (ds ++ ed) hlen t1)).elim
theorem r_callD (d : DfV (wr P w K mg base cl) x k n ed g) (i : Is X P w K mg base) (tk : Takes X W) (hr : Room k X.A) (hg : Gl X x) (ha : SA X cl W (e0 :: es) aa) (hdb : (x == ("__debug__" : Str)) = false := by decide)
    (he : starEach (e0 :: es) X.env = (false, eval e0 X.env) :: starEach es X.env := by rfl) (hpl : (backTo pos (starEach es X.env)).any (·.1) = false := by rfl) : SE X cl W (.Call (.Name x p) (e0 :: es) [] pos) (cCall (withD ed g) aa) := s_callD d (i.letsR tk) hr hg ha hdb he hpl
end
theorem funD_mk {K : PySem.W.Frag} {x qual : Str} {st : Stmt} {f T : Addr} {oc : Value} {od an : Option Addr} {kV doc pm cd ct : Value} {sl : Array (Option Value)} {it : Array Value} {m : Nat} {i : Int} {tk : Tok} (l : K.lookup f = some ⟨oc, od, .func (PySem.W.fnOf x qual (defArgs st) (defBody st) (defScope st) (.ref T) kV doc pm an cd ct), sl⟩) (c : PySem.W.codeIn K cd qual = true) (kp : PySem.W.keepIn K (.ref f) = true) (lT : K.lookup T = some ⟨.type "tuple", none, .seq it m, #[]⟩) (hi : it.toList = [.int i tk]) :
    FunD K x qual (defArgs st) (defBody st) (defScope st) [.int i] [] f (PySem.W.fnOf x qual (defArgs st) (defBody st) (defScope st) (.ref T) kV doc pm an cd ct) := by
  refine ⟨⟨oc, od, .ref T, kV, doc, pm, an, cd, ct, sl, rfl, l, c, .inr ⟨by simp, T, _, [.int i tk], m, rfl, lT, ?_, .cons ⟨tk, rfl⟩ .nil⟩, .inl rfl⟩, kp⟩
  rw [← hi]
theorem dfv_mkR {P : Program} {w : World} {K : PySem.W.Frag} {mg : Str → Option Value} {base : Heap} {cl : Str → Addr} {x qual : Str} {st : Stmt} {f : Addr} {fd : FuncData} {N ps : List Str} {k n m : Nat} {c : CS} {i : Int} (F : FunD K x qual (defArgs st) (defBody st) (defScope st) [.int i] [] f fd) (S : FnScope N ps (defScope st)) (hm : mg x = some (.ref f)) (hb : ∃ ds, Vals (([.int i] : List V).drop 1) ds ∧ Binds K fd ps ds) (hb1 : ∃ ds, Vals (([.int i] : List V).drop 0) ds ∧ Binds K fd ps ds)
    (hn : ps.length = n) (hN : N.length = m)
    (body : ∀ (cdv : Value) (A : Around) (outer : List PySem.Env) (s : Shared) (H : Hp) (E : XK), Room k (A.deeper (envOfC qual (defScope st) s.heap.objs.size f cdv)) →
      SSs (cxOf (L2.CX P w) P w K mg base N qual (defScope st) f cdv A outer s H E) cl (WR E) (defBody st) c) : DfV (wr P w K mg base cl) x (k + 1) n [.int i] (dfr n m c) := by
  have ok := fn_mkRD F S hn hN body
  obtain ⟨ds, v0, b0⟩ := hb
  cases v0
  obtain ⟨ds, v1, b1⟩ := hb1
  exact ⟨⟨fun ds h s => by unfold dfr; rw [if_neg h]; rfl, f, fd, ps, hm, F.kp, b0, hn, ok⟩, f, fd, ps, ds, _, hm, F.kp, b1, v1, fun _ _ => .cons (.int _) .nil, hn, ok⟩
end G

set_option Elab.async false
set_option linter.all false
set_option maxRecDepth 100000
set_option maxHeartbeats 4000000
/-! G, soundness: texts -/
namespace G
open PySem L2 PySem.Spec PyProof.Rows
section
variable {X : Cx} {cl : Str → Addr} {W : WX} {K : PySem.W.Frag} {bs : List Addr} {H : Hp} {s : Sto}
theorem Run.chk {α : Type} {K : PySem.W.Frag} {cl : Str → Addr} {bs : List Addr} {s : Sto} {H : Hp} {Wf : Value → Option Addr → Hp → Prop} {x : D} {m : Unit → Cm α} {P : α → List Addr → Sto → Hp → Prop} (S : StR K cl bs s H) (h : Run K cl Wf bs s H (G.bnd (chkS x) m) P) : ∃ z, x = .str z ∧ Run K cl Wf bs s H (m ()) P := by
  cases x with
  | str z => exact ⟨z, rfl, h⟩
  | _ => exact (show False from h).elim
/-- o.name(e), o a text -/
theorem s_m1 {id : String} {name : Str} {apos pos : Pos} {r : V → List V → Hp → VK → Prop} {o e : Expr} {co ce : CE} {f : D → D → Cm D} (slot : Slot "str" name id) (ty : typeOf (.builtin id) = pure (.type "method_descriptor")) (rule : MtR X id r)
    (hf : ∀ (Wf : Value → Option Addr → Hp → Prop) (bs : List Addr) (s : Sto) (H : Hp) (a : Str) (y : D) (w : V) (Q : VK), StR X.K cl bs s H → Rp X.K cl bs H y w → Run X.K cl Wf bs s H (f (.str a) y) (fun d bs' _ H' => ∀ v, Rp X.K cl bs' H' d v → Q v H') → r (.str a) [w] H Q)
    (ho : SE X cl W o co) (he : SE X cl W e ce) (hs : starEach [e] X.env = [(false, eval e X.env)] := by rfl) (hbase : attributeBase o name X.env (eval o X.env) = eval o X.env := by rfl) (hline : (apos.endLine == pos.line) = true := by rfl) :
    SE X cl W (.Call (.Attribute o name apos) [e] [] pos) (cM1 f co ce) := by
  refine PE.imp (pe_m1 slot ty rule ho he hs hbase hline) fun σ H Q ⟨bs, s, e, S, N, h⟩ => ?_
  refine ⟨bs, s, e, S, N, (Run.bnd h).imp fun x b1 t1 H1 g1 S1 h1 v r1 => ?_⟩
  obtain ⟨z, rfl, h2⟩ := Run.chk S1 h1
  cases r1
  refine ⟨⟨z, rfl⟩, b1, t1, e, S1, N.mono g1, (Run.bnd h2).imp fun y b2 t2 H2 g2 S2 h3 w r2 => ?_⟩
  exact hf _ b2 t2 H2 z y w Q S2 r2 h3
theorem s_m0 {id : String} {name : Str} {apos pos : Pos} {r : V → List V → Hp → VK → Prop} {o : Expr} {co : CE} {f : D → Cm D} (slot : Slot "str" name id) (ty : typeOf (.builtin id) = pure (.type "method_descriptor")) (rule : MtR X id r)
    (hf : ∀ (Wf : Value → Option Addr → Hp → Prop) (bs : List Addr) (s : Sto) (H : Hp) (a : Str) (Q : VK), StR X.K cl bs s H → Run X.K cl Wf bs s H (f (.str a)) (fun d bs' _ H' => ∀ v, Rp X.K cl bs' H' d v → Q v H') → r (.str a) [] H Q)
    (ho : SE X cl W o co) (hbase : attributeBase o name X.env (eval o X.env) = eval o X.env := by rfl) (hline : (apos.endLine == pos.line) = true := by rfl) :
    SE X cl W (.Call (.Attribute o name apos) [] [] pos) (cM0 f co) := by
  refine PE.imp (pe_m0 slot ty rule ho hbase hline) fun σ H Q ⟨bs, s, e, S, N, h⟩ => ?_
  refine ⟨bs, s, e, S, N, (Run.bnd h).imp fun x b1 t1 H1 g1 S1 h1 v r1 => ?_⟩
  obtain ⟨z, rfl, h2⟩ := Run.chk S1 h1
  cases r1
  exact ⟨⟨z, rfl⟩, hf _ b1 t1 H1 z Q S1 h2⟩
theorem strsD_ok : ∀ {ds : List D} {ys : List Str} {vs : List V}, strsD ds = some ys → RpL K cl bs H ds vs → vs = ys.map V.str
  | [], ys, vs, h, r => by cases h; cases r; rfl
  | d :: ds, ys, vs, h, r => by
    cases r with
    | cons r1 r2 =>
      cases d with
      | str x =>
        have h' : (strsD ds).map (x :: ·) = some ys := h
        cases q : strsD ds with
        | none => rw [q] at h'; cases h'
        | some zs =>
          rw [q] at h'
          cases h'
          cases r1
          rw [strsD_ok q r2]
          rfl
      | _ => cases h
theorem strsD_strs : ∀ ys : List Str, RpL K cl bs H (ys.map D.str) (ys.map V.str)
  | [] => .nil
  | y :: ys => .cons (.str _) (strsD_strs ys)
theorem new_strs {Wf : Value → Option Addr → Hp → Prop} {ys : List Str} {Q : VK} (S : StR K cl bs s H) (h : Run K cl Wf bs s H (alloc (.lst (ys.map D.str))) (fun d bs' _ H' => ∀ v, Rp K cl bs' H' d v → Q v H')) : rNewStrs ys H Q := fun p hp => Run.newL S hp (strsD_strs ys) h
variable {o a : Expr} {co ca : CE} {apos pos : Pos}
theorem s_join (ho : SE X cl W o co) (ha : SE X cl W a ca) (hs : starEach [a] X.env = [(false, eval a X.env)] := by rfl) (hbase : attributeBase o "join" X.env (eval o X.env) = eval o X.env := by rfl) (hline : (apos.endLine == pos.line) = true := by rfl) :
    SE X cl W (.Call (.Attribute o "join" apos) [a] [] pos) (cM1 dJoin co ca) := by
  refine s_m1 F.slot_str_join F.type_str_join mt_join ?_ ho ha hs hbase hline
  intro Wf bs s H z y w Q S r h
  cases e : rowS s y with
  | none => exact (Run.of_no h (by unfold dJoin; simp only [e])).elim
  | some ys =>
    by_cases c : (ys.map (·.length)).sum + ys.length * z.length ≤ 16777216
    · have fin := Run.of_ok h (a := .str (Txt.join z ys)) (t := s) (by unfold dJoin; simp only [e]; rw [if_pos c]) bs H (Gr.refl _ _) S _ (.str _)
      cases y with
      | tup xs =>
        cases r with
        | @tup _ p vs h1 h2 =>
          have := strsD_ok e h2
          subst this
          exact ⟨z, p, ys, rfl, rfl, .inr (sqT_mono (fun a o e => (hid_some e).2) h1), c, fin⟩
      | box j =>
        cases e1 : lAt s j with
        | none => simp [rowS, e1] at e
        | some xs =>
          have e2 : strsD xs = some ys := by simpa [rowS, e1] using e
          obtain ⟨p, vs, rfl, _, a2, a3⟩ := S.lst e1 r
          have := strsD_ok e2 a3
          subst this
          exact ⟨z, p, ys, rfl, rfl, .inl (SqL.of a2), c, fin⟩
      | _ => cases e
    · exact (Run.of_no h (by unfold dJoin; simp only [e]; rw [if_neg c])).elim
theorem s_split (ho : SE X cl W o co) (ha : SE X cl W a ca) (hs : starEach [a] X.env = [(false, eval a X.env)] := by rfl) (hbase : attributeBase o "split" X.env (eval o X.env) = eval o X.env := by rfl) (hline : (apos.endLine == pos.line) = true := by rfl) :
    SE X cl W (.Call (.Attribute o "split" apos) [a] [] pos) (cM1 dSplit co ca) := by
  refine s_m1 F.slot_str_split F.type_str_split mt_split ?_ ho ha hs hbase hline
  intro Wf bs s H z y w Q S r h
  cases y with
  | str b =>
    cases r
    have h' : Run X.K cl Wf bs s H (if (b.length == 0) = false ∧ z.length ≤ big then alloc (.lst ((Txt.split z b).map D.str)) else noC) (fun d bs' _ H' => ∀ v, Rp X.K cl bs' H' d v → Q v H') := h
    by_cases c : (b.length == 0) = false ∧ z.length ≤ big
    · rw [if_pos c] at h'
      have hb : z.length + 2 ≤ sizeLine := by
        have := c.2
        have e : big = 1000000 := rfl
        have e2 : sizeLine = 16777216 := rfl
        omega
      exact ⟨z, b, rfl, rfl, c.1, hb, new_strs S h'⟩
    · rw [if_neg c] at h'
      exact h'.elim
  | _ => exact (show False from h).elim
theorem s_cntS (ho : SE X cl W o co) (ha : SE X cl W a ca) (hs : starEach [a] X.env = [(false, eval a X.env)] := by rfl) (hbase : attributeBase o "count" X.env (eval o X.env) = eval o X.env := by rfl) (hline : (apos.endLine == pos.line) = true := by rfl) :
    SE X cl W (.Call (.Attribute o "count" apos) [a] [] pos) (cM1 dCntS co ca) := by
  refine s_m1 F.slot_str_count F.type_str_count mt_count ?_ ho ha hs hbase hline
  intro Wf bs s H z y w Q S r h
  cases y with
  | str b => cases r; exact ⟨z, b, rfl, rfl, Run.now S (show Run X.K cl Wf bs s H (ret (D.int (Txt.count z b))) _ from h) _ (.int _)⟩
  | _ => exact (show False from h).elim
theorem s_starts (ho : SE X cl W o co) (ha : SE X cl W a ca) (hs : starEach [a] X.env = [(false, eval a X.env)] := by rfl) (hbase : attributeBase o "startswith" X.env (eval o X.env) = eval o X.env := by rfl) (hline : (apos.endLine == pos.line) = true := by rfl) :
    SE X cl W (.Call (.Attribute o "startswith" apos) [a] [] pos) (cM1 dStarts co ca) := by
  refine s_m1 F.slot_str_startswith F.type_str_startswith mt_startswith ?_ ho ha hs hbase hline
  intro Wf bs s H z y w Q S r h
  cases y with
  | str b => cases r; exact ⟨z, b, rfl, rfl, Run.now S (show Run X.K cl Wf bs s H (ret (D.bl (Txt.startswith z b))) _ from h) _ (.bl _)⟩
  | _ => exact (show False from h).elim
theorem s_idxS (ho : SE X cl W o co) (ha : SE X cl W a ca) (hs : starEach [a] X.env = [(false, eval a X.env)] := by rfl) (hbase : attributeBase o "index" X.env (eval o X.env) = eval o X.env := by rfl) (hline : (apos.endLine == pos.line) = true := by rfl) :
    SE X cl W (.Call (.Attribute o "index" apos) [a] [] pos) (cM1 dIdxS co ca) := by
  refine s_m1 F.slot_str_index F.type_str_index mt_sindex ?_ ho ha hs hbase hline
  intro Wf bs s H z y w Q S r h
  cases y with
  | str b =>
    cases r
    cases e : Builtin.Str.occurrences z b 0 z.length 1 with
    | nil => exact (Run.of_no h (by unfold dIdxS; simp only [e]; rfl)).elim
    | cons i l =>
      refine ⟨z, b, i, l, rfl, rfl, e, Run.of_ok h (a := .int (i : Nat)) (t := s) (by unfold dIdxS; simp only [e]; rfl) bs H (Gr.refl _ _) S _ (.int _)⟩
  | _ => exact (show False from h).elim
theorem s_part (ho : SE X cl W o co) (ha : SE X cl W a ca) (hs : starEach [a] X.env = [(false, eval a X.env)] := by rfl) (hbase : attributeBase o "partition" X.env (eval o X.env) = eval o X.env := by rfl) (hline : (apos.endLine == pos.line) = true := by rfl) :
    SE X cl W (.Call (.Attribute o "partition" apos) [a] [] pos) (cM1 dPart co ca) := by
  refine s_m1 F.slot_str_partition F.type_str_partition mt_partition ?_ ho ha hs hbase hline
  intro Wf bs s H z y w Q S r h
  cases y with
  | str b =>
    cases r
    by_cases c : (b.length == 0) = false ∧ z.length ≤ big
    · have h' : Run X.K cl Wf bs s H (ret (D.tup [D.str (Txt.partition z b).1, D.str (Txt.partition z b).2.1, D.str (Txt.partition z b).2.2])) (fun d bs' _ H' => ∀ v, Rp X.K cl bs' H' d v → Q v H') := by
        have e : dPart (.str z) (.str b) = ret (D.tup [D.str (Txt.partition z b).1, D.str (Txt.partition z b).2.1, D.str (Txt.partition z b).2.2]) := by
          show (if (b.length == 0) = false ∧ z.length ≤ big then ret (D.tup [D.str (Txt.partition z b).1, D.str (Txt.partition z b).2.1, D.str (Txt.partition z b).2.2]) else noC) = _
          rw [if_pos c]
        rw [e] at h
        exact h
      exact ⟨z, b, rfl, rfl, c.1, big_line c.2, fun p hp => Run.newT S hp (.cons (.str _) (.cons (.str _) (.cons (.str _) .nil))) h'⟩
    · have e : dPart (.str z) (.str b) = noC := by
        show (if (b.length == 0) = false ∧ z.length ≤ big then ret (D.tup [D.str (Txt.partition z b).1, D.str (Txt.partition z b).2.1, D.str (Txt.partition z b).2.2]) else noC) = _
        rw [if_neg c]
      rw [e] at h
      exact h.elim
  | _ => exact (show False from h).elim
theorem s_strip (ho : SE X cl W o co) (hbase : attributeBase o "strip" X.env (eval o X.env) = eval o X.env := by rfl) (hline : (apos.endLine == pos.line) = true := by rfl) :
    SE X cl W (.Call (.Attribute o "strip" apos) [] [] pos) (cM0 dStrip co) := by
  refine s_m0 F.slot_str_strip F.type_str_strip mt_strip ?_ ho hbase hline
  intro Wf bs s H z Q S h
  by_cases c : z.length ≤ big
  · exact ⟨z, rfl, rfl, big_line c, Run.of_ok h (a := .str (Txt.strip z)) (t := s) (by unfold dStrip; simp only [if_pos c]; rfl) bs H (Gr.refl _ _) S _ (.str _)⟩
  · exact (Run.of_no h (by unfold dStrip; simp only [if_neg c]; rfl)).elim
theorem s_slS {lo hi : Option Expr} {cl' ch : CO} {p2 : Pos} (ha : SE X cl W a ca) (hl : SO X cl W lo cl') (hh : SO X cl W hi ch) : SE X cl W (.Subscript a (.Slice lo hi none p2) pos) (cSlS ca cl' ch) := by
  refine PE.imp (pe_slice sl_str ha hl hh) fun σ H Q ⟨bs, s, e, S, N, h⟩ => ?_
  refine ⟨bs, s, e, S, N, (Run.bnd h).imp fun x b1 t1 H1 g1 S1 h1 v r1 => ⟨b1, t1, e, S1, N.mono g1, (Run.bnd h1).imp fun l b2 t2 H2 g2 S2 h2 => ⟨b2, t2, e, S2, (N.mono g1).mono g2, (Run.bnd h2).imp fun u b3 t3 H3 g3 S3 h3 => ?_⟩⟩⟩
  cases x with
  | str z =>
    cases r1
    by_cases c : z.length ≤ big
    · exact ⟨z, rfl, big_line c, Run.of_ok h3 (a := .str (cutS z l u)) (t := t3) (by unfold dSlS; simp only [if_pos c]; rfl) b3 H3 (Gr.refl _ _) S3 _ (.str _)⟩
    · exact (Run.of_no h3 (by unfold dSlS; simp only [if_neg c]; rfl)).elim
  | _ => exact (show False from h3).elim
theorem one_sign {a : Str} {c : Nat} (h : a.cps.toList = [c]) : a = ⟨#[c]⟩ := by
  obtain ⟨l⟩ := a
  have : l = #[c] := by
    rw [← Array.toList_inj, h]
  rw [this]
theorem og_inS : OpG X cl (compareOp .In) (dInS false) := by
  refine ⟨_, op_in_sign, ?_⟩
  intro Wf bs s H x y v w Q S r1 r2 h
  cases x with
  | str a =>
    cases y with
    | str b =>
      cases r1
      cases r2
      cases e : a.cps.toList with
      | nil => exact (Run.of_no h (by unfold dInS; simp only [e]; rfl)).elim
      | cons c l =>
        cases l with
        | nil => exact ⟨c, b, by rw [one_sign e], rfl, Run.of_ok h (a := .bl (decide (c ∈ b.cps.toList))) (t := s) (by unfold dInS; simp only [e]; rfl) bs H (Gr.refl _ _) S _ (.bl _)⟩
        | cons c' l => exact (Run.of_no h (by unfold dInS; simp only [e]; rfl)).elim
    | _ => exact (show False from h).elim
  | _ => cases y <;> exact (show False from h).elim
theorem og_ninS : OpG X cl (compareOp .NotIn) (dInS true) := by
  refine ⟨_, op_notIn_sign, ?_⟩
  intro Wf bs s H x y v w Q S r1 r2 h
  cases x with
  | str a =>
    cases y with
    | str b =>
      cases r1
      cases r2
      cases e : a.cps.toList with
      | nil => exact (Run.of_no h (by unfold dInS; simp only [e]; rfl)).elim
      | cons c l =>
        cases l with
        | nil => exact ⟨c, b, by rw [one_sign e], rfl, Run.of_ok h (a := .bl (!decide (c ∈ b.cps.toList))) (t := s) (by unfold dInS; simp only [e]; rfl) bs H (Gr.refl _ _) S _ (.bl _)⟩
        | cons c' l => exact (Run.of_no h (by unfold dInS; simp only [e]; rfl)).elim
    | _ => exact (show False from h).elim
  | _ => cases y <;> exact (show False from h).elim
end
end G

set_option Elab.async false
set_option linter.all false
set_option maxRecDepth 100000
set_option maxHeartbeats 4000000
/-! G, soundness: texts from their end, reversed(range(n)), enumerate with start -/
namespace G
open PySem L2 PySem.Spec PyProof.Rows
section
variable {X : Cx} {cl : Str → Addr} {W : WX} {ca : CE} {tg : Expr} {p pos : Pos} {a : Expr}
def tRevSt (te : TE) : TE := fun σ H Q => te σ H fun x H1 => ∃ z, x = .str z ∧ z.length ≤ sizeLine ∧ Q (.str (revS z)) H1
theorem rev_picked (z : Str) : ((Builtin.Str.strSliceIndices none none (-1) z.length).filterMap (z.cps[·]?)).toArray = z.cps.toList.reverse.toArray := by
  rw [picked_rev]
  congr 1
  rw [filterMap_get, List.map_map]
  · obtain ⟨⟨l⟩⟩ := z
    apply List.ext_getElem
    · simp [Str.length]
    · intro i h1 h2
      have hi : i < l.length := by simpa [Str.length] using h1
      have h3 : l.length - 1 - i < l.length := by omega
      simp only [List.getElem_map, List.getElem_range, Function.comp, List.getElem_reverse, Str.length, Array.getD, List.size_toArray]
      rw [dif_pos h3]
      rfl
  · intro i hi
    obtain ⟨k, hk, rfl⟩ := List.mem_map.mp hi
    have hk' : k < z.length := List.mem_range.mp hk
    show z.length - 1 - k < z.length
    omega
theorem revS_len (z : Str) : (revS z).length = z.length := by
  show (z.cps.toList.reverse.toArray).size = z.cps.size
  rw [List.size_toArray, List.length_reverse, Array.length_toList]
theorem pe_revSt {e : Expr} {te : TE} {k : Nat} {p1 p2 p3 pos : Pos} (he : PE X e te) : PE X (.Subscript e (.Slice none none (some (.UnaryOp .USub (.Constant (.int 1) k p1) p2)) p3) pos) (tRevSt te) := by
  refine ⟨fun pins s σ H Q I h => ?_⟩
  refine Subscript_ (thn (he.run pins s σ H _ I h) fun v s1 ⟨x, H1, I1, r1, q1⟩ => ?_)
  obtain ⟨z, ex, hx, q⟩ := q1
  subst ex
  obtain ⟨t, rfl⟩ := r1
  have hst : PO X (some (.UnaryOp .USub (.Constant (.int 1) k p1) p2)) (tPart (tUn (rU fun i => .int (-i)) (tC (.int 1)))) := po_some (pe_un un_neg pe_int)
  refine wpAny_Slice (thn (po_none.run pins s1 σ H1 (fun o H2 => o = none ∧ H2 = H1) I1 ⟨rfl, rfl⟩) fun vl s2 ⟨l, H2, I2, pl, el, e2⟩ => ?_)
  subst el e2
  refine thn (po_none.run pins s2 σ H2 (fun o H3 => o = none ∧ H3 = H2) I2 ⟨rfl, rfl⟩) fun vu s3 ⟨u, H3, I3, pu, eu, e3⟩ => ?_
  subst eu e3
  refine thn (hst.run pins s3 σ H3 (fun o H4 => o = some (-1) ∧ H4 = H3) I3 ⟨1, rfl, -1, rfl, rfl, rfl⟩) fun vs s4 ⟨o, H4, I4, ps, eo, e4⟩ => ?_
  subst eo e4
  have I5 : Inv X pins σ H4 { s4 with heap := s4.heap.push { cls := .type "slice", data := .fields #[vl, vu, vs] } } := I4.kept (t' := s4.toks) fun b ob q => Heap.get?_push_of_some _ q
  show wpAny (model X.prog X.w) X.A (subscriptTail e (.Slice none none (some (.UnaryOp .USub (.Constant (.int 1) k p1) p2)) p3) (.str z t) (.ref s4.heap.objs.size)) (EP X pins σ Q) X.xe { s4 with heap := s4.heap.push { cls := .type "slice", data := .fields #[vl, vu, vs] } }
  refine tail_any (ops := [.str z t, .ref s4.heap.objs.size]) (typeIs_str _ _ _) (F.slot_str_getitem.lookup) ?_ (by with_unfolding_all rfl)
  have hs := Heap.IsSliceOf.new s4.heap vl vu vs
  obtain ⟨os, hos, hcs, hds⟩ := hs
  obtain ⟨l1, rfl, e1⟩ := IsPart.raw pl
  obtain ⟨u1, rfl, e2⟩ := IsPart.raw pu
  obtain ⟨st, rfl, e3⟩ := IsPart.raw ps
  refine wpAny_getItem_str_slice (l := l1) (u := u1) (st := st) ⟨os, hos, hcs, hds⟩ (by rw [e3]; rfl) ?_
  have e : sliceMade z t l1 u1 st = Made.str (revS z) := by
    have c : ¬ (((st.map (·.1)).getD 1 == 1 && (slicePicked z l1 u1 st).length == z.length) = true) := by
      rw [e3]
      simp only [Option.getD_some, show ((-1 : Int) == 1) = false from rfl, Bool.false_and]
      exact Bool.false_ne_true
    unfold sliceMade
    rw [if_neg c]
    unfold slicePicked
    rw [e1, e2, e3]
    show Made.str ⟨((Builtin.Str.strSliceIndices none none (-1) z.length).filterMap (z.cps[·]?)).toArray⟩ = _
    rw [rev_picked]
    rfl
  rw [e]
  exact ⟨by rw [revS_len]; exact hx, .str _, H4, I5.tok _, ⟨_, rfl⟩, q⟩
theorem s_revS {k : Nat} {p1 p2 p3 : Pos} (ha : SE X cl W a ca) : SE X cl W (.Subscript a (.Slice none none (some (.UnaryOp .USub (.Constant (.int 1) k p1) p2)) p3) pos) (cUn dRevS ca) :=
  PE.imp (pe_revSt ha) fun σ H Q ⟨bs, s, e, S, N, h⟩ => ⟨bs, s, e, S, N, (Run.bnd h).imp fun x b1 t1 H1 g1 S1 h1 v r1 => by
    cases x with
    | str z =>
      cases r1
      by_cases c : z.length ≤ big
      · exact ⟨z, rfl, big_line c, Run.of_ok h1 (a := .str (revS z)) (t := t1) (by unfold dRevS; simp only [if_pos c]; rfl) b1 H1 (Gr.refl _ _) S1 _ (.str _)⟩
      · exact (Run.of_no h1 (by unfold dRevS; simp only [if_neg c]; rfl)).elim
    | _ => exact (show False from h1).elim⟩
/-- reversed(range(n)) -/
theorem i_revR {p2 pos2 : Pos} (hg : Gl X "reversed") (hm : X.mg "reversed" = none) (hg2 : Gl X "range") (hm2 : X.mg "range" = none) (ha : SE X cl W a ca) (na : starEach [a] X.env = (false, eval a X.env) :: starEach [] X.env := by rfl)
    (hs : starEach [.Call (.Name "range" p2) [a] [] pos2] X.env = (false, eval (.Call (.Name "range" p2) [a] [] pos2) X.env) :: starEach [] X.env := by rfl) :
    SI X cl W tg (.Call (.Name "reversed" p) [.Call (.Name "range" p2) [a] [] pos2] [] pos) (iRevR ca) :=
  PI.imp (pi_revR hg hm (prg_1 hg2 hm2 ha na) hs) fun σ H R ⟨bs, s, e, S, N, h⟩ => by
    refine ⟨bs, s, e, S, N, (Run.bnd h).imp fun d b1 t1 H1 g1 S1 h1 v r1 => ?_⟩
    cases d with
    | int j =>
      obtain ⟨c, h1⟩ := Run.ite h1
      have f := Run.now S1 h1 _ (itOf_rc (K := X.K))
      refine ⟨j, r1.int_inv, by decide, by decide, c.1, c.2, ?_⟩
      rw [show j - 0 = j by omega, show (0 : Int) + ((j.toNat : Nat) : Int) - 1 = (j.toNat : Int) - 1 by omega]
      exact f
    | _ => exact (show False from h1).elim
/-! ### enumerate(e, start=k), k written -/
theorem callWith_typeK {M : Model} {A : Around} {E : Value → Shared → Prop} {s : Shared} {pos : Pos} {T : String} {args : List (Bool × Sem Value)} {keywords : List (Option Str × Sem Value)} {Q : Value → Shared → Prop}
    (hplain : args.any (·.1) = false) (hkw : keywords.any (·.1.isNone) = false)
    (h : wpAny M A (evalArgs (.type T) true args keywords) (fun a s₁ => wpAny M A (call (.type T) ([] ++ a.pos) a.kw) Q E s₁) E s) :
    wpAny M A (callWith pos (.type T) [] args keywords) Q E s := by
  unfold callWith
  refine wpAny_bind (wpAny_holding (wpAny_mono h (fun a s₁ h₁ => wpAny_bind (wpAny_standAt ?_)) fun _ _ x => x))
  simp only [hplain, hkw, Bool.or_false]
  refine wpAny_bind (wpAny_pure ?_)
  exact wpAny_bind (wpAny_mono h₁ (fun r s₂ hr => wpAny_bind (wpAny_holding (wpAny_point (wpAny_pure hr)))) fun _ _ x => x)
theorem callWith_typeK1 {M : Model} {A : Around} {E : Value → Shared → Prop} {s : Shared} {env : Env} {pos : Pos} {T : String} {e : Expr} {rest : List Expr} {kws : List Keyword} {Q : Value → Shared → Prop}
    (h : wpAny M A (spliced (backTo pos (starEach (e :: rest) env))) (fun vs s₁ => wpAny M A (evalAll ((backToKw pos (keywordEach kws env)).map (·.2)))
      (fun kvs s₂ => wpAny M A (call (.type T) vs (((backToKw pos (keywordEach kws env)).filterMap (·.1)).zip kvs)) Q E s₂) E s₁) E s)
    (he : backTo pos (starEach (e :: rest) env) = (false, eval e env) :: backTo pos (starEach rest env))
    (hplain : (backTo pos (starEach (e :: rest) env)).any (·.1) = false)
    (hall : (backToKw pos (keywordEach kws env)).all (·.1.isSome) = true := by rfl)
    (hkw : (backToKw pos (keywordEach kws env)).any (·.1.isNone) = false := by rfl) :
    wpAny M A (callWith pos (.type T) [] (backTo pos (starEach (e :: rest) env)) (backToKw pos (keywordEach kws env))) Q E s := by
  refine callWith_typeK hplain hkw ?_
  rw [he] at h ⊢
  exact evalArgs_kwB hall h
theorem pi_enumK {X : Cx} {e : Expr} {ta : TA} {k0 : Int} {kk0 : Nat} {pk pk2 p pos tpos : Pos} {elts : List Expr} {kk : Nat} (hg : Gl X "enumerate") (hm : X.mg "enumerate" = none) (ha : PA X [e] ta) (b0 : -(2 ^ 63) ≤ k0) (b1 : k0 < 2 ^ 63)
    (hs : starEach [e] X.env = [(false, eval e X.env)] := by rfl) :
    PI X (.Tuple elts kk tpos) (.Call (.Name "enumerate" p) [e] [⟨some "start", .Constant (.int k0) kk0 pk, pk2⟩] pos) (iEnumG X.K k0 ta) := by
  refine ⟨fun pins s σ H R I h => ?_⟩
  refine wpAny_Call_Name_kw (ld_blt I hg hm boot_enumerate (callWith_typeK1 (thn (ha.run pos pins s σ H _ I h) fun us s1 ⟨vs, H1, I1, r1, q1⟩ => ?_) (by rw [hs]; rfl) (by rw [hs]; rfl)))
  obtain ⟨v1, k1, xs, rfl, f1, w1, hR⟩ := q1
  cases r1 with
  | cons r rr =>
  cases rr
  obtain ⟨t1, rfl⟩ := f1.val r
  refine kws_cons (wpAny_Constant_int (kws_nil ?_))
  have I1 := I1.tok (s1.toks + 1)
  obtain ⟨o1, G1, B1, g1, z1⟩ := SrcK.begins I1 (w1 t1)
  have lo1 := SrcK.low I1 (w1 t1)
  refine enum_begins_start (t := s1.toks) B1 g1 b0 b1 fun h' he h1 hsz hk => wpAny_pyIter_enum he ?_
  have I2 : Inv X pins σ H1 { s1 with heap := h', toks := s1.toks + 1 } := I1.kept (t' := s1.toks + 1) hk
  refine ⟨s1.heap.objs.size + 1, [s1.heap.objs.size + 1, s1.heap.objs.size], _, _, H1, rfl, I2, turnE (k0 := k0) (Nat.succ_ne_self _) (fun q => Nat.lt_irrefl _ (Nat.lt_of_succ_lt (lo1 _ q))) (fun q => Nat.lt_irrefl _ (lo1 _ q)), ⟨⟨.none, by rw [show k0 + ((0 : Nat) : Int) = k0 by omega]; exact he⟩, z1 _ _ h1⟩, fun c hc => ?_, hR t1⟩
  have hle : s1.heap.objs.size ≤ c := by
    simp only [List.mem_cons, List.not_mem_nil, or_false] at hc
    rcases hc with rfl | rfl
    · exact Nat.le_add_right _ 1
    · exact Nat.le_refl _
  exact I1.fpOk hle (I1.hok.fresh hle)
theorem i_enumK {k0 : Int} {kk0 : Nat} {pk pk2 tpos : Pos} {elts : List Expr} {kk : Nat} (hg : Gl X "enumerate") (hm : X.mg "enumerate" = none) (ha : SE X cl W a ca) (b0 : -(2 ^ 63) ≤ k0 := by decide) (b1 : k0 < 2 ^ 63 := by decide)
    (h1 : starEach [a] X.env = (false, eval a X.env) :: starEach [] X.env := by rfl) :
    SI X cl W (.Tuple elts kk tpos) (.Call (.Name "enumerate" p) [a] [⟨some "start", .Constant (.int k0) kk0 pk, pk2⟩] pos) (iEnum k0 ca) := by
  refine PI.imp (pi_enumK hg hm (pa_cons ha pa_nil h1) b0 b1 h1) fun σ H R ⟨bs, s, e, S, N, h⟩ => ?_
  refine ⟨bs, s, e, S, N, (Run.bnd h).imp fun x b1 t1 H1 g1 S1 k1 v r1 => ?_⟩
  cases q1 : rowOf t1 x with
  | none => exact (Run.of_no k1 (by simp only [q1])).elim
  | some xs =>
  have fin := Run.of_ok k1 (a := .enum k0 x) (t := t1) (by simp only [q1]) b1 H1 (Gr.refl _ _) S1
  obtain ⟨f1, sf1, m1⟩ := kindOf S1 r1 q1
  obtain ⟨vs, w1, _⟩ := m1 b1 t1 H1 xs (Gr.refl _ _) S1 q1
  refine ⟨v, f1, vs, rfl, sf1, w1, fun tk => fin _ ?_⟩
  intro bs s H all g S q i
  have q : (match rowOf s x with | some xs => some (enumD k0 xs) | none => none) = some all := q
  cases z1 : rowOf s x with
  | none => rw [z1] at q; cases q
  | some xs2 =>
  rw [z1] at q
  cases q
  obtain ⟨vs2, y1, y2⟩ := m1 bs s H xs2 g S z1
  rw [enumD_len]
  have l1 := y2.length
  refine ⟨fun hi => ⟨⟨vs2, y1 _, by omega⟩, fun X' H' yy => ?_⟩, fun hi => ⟨vs2, y1 _, by omega⟩⟩
  obtain ⟨T, xv, rfl, hT, rfl, e1⟩ := yy
  obtain ⟨dx, o1, o2⟩ := y2.get' (e1 _ (y1 _))
  exact ⟨gr_new hT, S.new hT, _, enumD_get o1, Rp.newT S hT (.cons (.int _) (.cons o2 .nil))⟩
end
end G

set_option Elab.async false
set_option linter.all false
set_option maxRecDepth 100000
set_option maxHeartbeats 4000000
/-! plain arithmetic: powers of two, how many times two goes into a number -/
namespace P
open PySem L2 G
theorem npow_pos (n : Nat) : (0 : Int) < 2 ^ n := Int.pow_pos (by decide)
theorem pow_nat (n : Nat) : (2 : Int) ^ n = ((2 ^ n : Nat) : Int) := by simp
theorem npow_le {n m : Nat} (h : n ≤ m) : (2 : Int) ^ n ≤ 2 ^ m := by
  rw [pow_nat, pow_nat]
  exact Int.ofNat_le.mpr (Nat.pow_le_pow_right (by decide) h)
theorem npow_add (n m : Nat) : (2 : Int) ^ (n + m) = 2 ^ n * 2 ^ m := Int.pow_add 2 n m
/-- how many times two goes into a natural number (fuel: the number itself) -/
def tzN : Nat → Nat → Nat
  | 0, _ => 0
  | f + 1, v => if v % 2 = 0 then tzN f (v / 2) + 1 else 0
/-- Z(v): 32 for nought -/
def zn (v : Int) : Nat := if v = 0 then 32 else tzN v.natAbs v.natAbs
def zv (v : Int) : Int := zn v
theorem tzN_odd {f : Nat} {o t : Nat} (h : o % 2 = 1) (hf : t < f) : tzN f (o * 2 ^ t) = t := by
  induction t generalizing f with
  | zero =>
    cases f with
    | zero => omega
    | succ f =>
      unfold tzN
      rw [Nat.pow_zero, Nat.mul_one, if_neg (by omega)]
  | succ t ih =>
    cases f with
    | zero => omega
    | succ f =>
      unfold tzN
      have e : o * 2 ^ (t + 1) = 2 * (o * 2 ^ t) := by rw [Nat.pow_succ]; ac_rfl
      rw [e, if_pos (by omega)]
      have e2 : 2 * (o * 2 ^ t) / 2 = o * 2 ^ t := by omega
      rw [e2, ih (by omega)]
theorem lt_pow (t : Nat) : t < 2 ^ t := Nat.lt_two_pow_self
theorem zn_odd {o : Int} {t : Nat} (h : o % 2 = 1) : zn (o * 2 ^ t) = t := by
  have hp := npow_pos t
  have ne : o * 2 ^ t ≠ 0 := Int.mul_ne_zero (by omega) (by omega)
  unfold zn
  rw [if_neg ne]
  have e : (o * 2 ^ t).natAbs = o.natAbs * 2 ^ t := by rw [Int.natAbs_mul, pow_nat, Int.natAbs_natCast]
  rw [e]
  refine tzN_odd (by omega) ?_
  have h1 : 1 ≤ o.natAbs := by omega
  have h2 := lt_pow t
  have h3 : 1 * 2 ^ t ≤ o.natAbs * 2 ^ t := Nat.mul_le_mul_right _ h1
  omega
/-- every number but nought is an odd one moved -/
theorem odd_ex : ∀ (n : Nat) (v : Int), v.natAbs ≤ n → v ≠ 0 → ∃ (o : Int) (t : Nat), o % 2 = 1 ∧ v = o * 2 ^ t
  | 0, v, h, n => absurd (by omega) n
  | n + 1, v, h, ne => by
    by_cases e : v % 2 = 0
    · obtain ⟨o, t, h1, h2⟩ := odd_ex n (v / 2) (by omega) (by omega)
      refine ⟨o, t + 1, h1, ?_⟩
      have : v = 2 * (v / 2) := by omega
      rw [Int.pow_succ, ← Int.mul_assoc, ← h2]
      omega
    · exact ⟨v, 0, by omega, by rw [Int.pow_zero, Int.mul_one]⟩
theorem odd_of {v : Int} (h : v ≠ 0) : ∃ (o : Int) (t : Nat), o % 2 = 1 ∧ v = o * 2 ^ t ∧ zn v = t := by
  obtain ⟨o, t, h1, h2⟩ := odd_ex v.natAbs v (Nat.le_refl _) h
  exact ⟨o, t, h1, h2, by rw [h2]; exact zn_odd h1⟩
theorem zn_neg (v : Int) : zn (-v) = zn v := by
  unfold zn
  by_cases h : v = 0
  · subst h; rfl
  · rw [if_neg h, if_neg (by omega), Int.natAbs_neg]
theorem dvd_zn {v : Int} (h : v ≠ 0) (z : Nat) : v % 2 ^ z = 0 ↔ z ≤ zn v := by
  obtain ⟨o, t, h1, h2, h3⟩ := odd_of h
  rw [h3]
  constructor
  · intro e
    by_cases c : z ≤ t
    · exact c
    · exfalso
      have d : (2 : Int) ^ z ∣ o * 2 ^ t := by rw [← h2]; exact Int.dvd_of_emod_eq_zero e
      have e1 : z = (t + 1) + (z - (t + 1)) := by omega
      have d2 : (2 : Int) ^ (t + 1) ∣ o * 2 ^ t := Int.dvd_trans ⟨2 ^ (z - (t + 1)), by rw [← npow_add, ← e1]⟩ d
      obtain ⟨k, hk⟩ := d2
      rw [Int.pow_succ] at hk
      have hp := npow_pos t
      have : o = 2 * k := by
        have e3 : (2 : Int) ^ t * o = 2 ^ t * (2 * k) := by
          rw [Int.mul_comm, hk]; simp only [Int.mul_assoc]
        exact Int.eq_of_mul_eq_mul_left (by omega) e3
      omega
  · intro c
    have e1 : t = z + (t - z) := by omega
    rw [h2, e1, npow_add]
    have : o * (2 ^ z * 2 ^ (t - z)) = 2 ^ z * (o * 2 ^ (t - z)) := by ac_rfl
    rw [this]
    exact Int.mul_emod_right _ _
theorem zn_lt {v : Int} (h0 : v ≠ 0) {n : Nat} (h : v.natAbs < 2 ^ n) : zn v < n := by
  obtain ⟨o, t, h1, h2, h3⟩ := odd_of h0
  rw [h3]
  by_cases c : t < n
  · exact c
  · exfalso
    have e : v.natAbs = o.natAbs * 2 ^ t := by rw [h2, Int.natAbs_mul, pow_nat, Int.natAbs_natCast]
    have h4 : 1 ≤ o.natAbs := by omega
    have h5 : 1 * 2 ^ t ≤ o.natAbs * 2 ^ t := Nat.mul_le_mul_right _ h4
    have h6 : 2 ^ n ≤ 2 ^ t := Nat.pow_le_pow_right (by decide) (by omega)
    omega
/-- x and its opposite, bit by bit -/
theorem and_pred {q t : Nat} : ((2 * q + 1) * 2 ^ t) &&& ((2 * q + 1) * 2 ^ t - 1) = 2 * q * 2 ^ t := by
  have hp : 0 < 2 ^ t := Nat.two_pow_pos t
  have e1 : (2 * q + 1) * 2 ^ t = 2 ^ t * (2 * q + 1) + 0 := Nat.mul_comm _ _
  have e2 : (2 * q + 1) * 2 ^ t - 1 = 2 ^ t * (2 * q) + (2 ^ t - 1) := by rw [Nat.mul_comm, Nat.mul_add]; omega
  have e3 : 2 * q * 2 ^ t = 2 ^ t * (2 * q) + 0 := Nat.mul_comm _ _
  rw [e2, e1, e3]
  apply Nat.eq_of_testBit_eq
  intro j
  rw [Nat.testBit_and, Nat.testBit_two_pow_mul_add _ hp, Nat.testBit_two_pow_mul_add _ (by omega), Nat.testBit_two_pow_mul_add _ hp]
  by_cases c : j < t
  · simp [c]
  · simp only [c, if_false]
    cases hj : j - t with
    | zero => simp
    | succ k =>
      rw [Nat.testBit_succ, Nat.testBit_succ]
      have : (2 * q + 1) / 2 = 2 * q / 2 := by omega
      rw [this, Bool.and_self]
theorem and_neg {o : Int} {t : Nat} (h0 : 0 < o) (h : o % 2 = 1) : Builtin.bitAnd (o * 2 ^ t) (0 - o * 2 ^ t) = 2 ^ t := by
  obtain ⟨q, rfl⟩ : ∃ q : Nat, o = 2 * (q : Int) + 1 := ⟨(o / 2).toNat, by omega⟩
  have hp := npow_pos t
  have hx : (2 * (q : Int) + 1) * 2 ^ t = (((2 * q + 1) * 2 ^ t : Nat) : Int) := by rw [pow_nat]; simp
  have hpos : 0 < (2 * q + 1) * 2 ^ t := Nat.mul_pos (by omega) (Nat.two_pow_pos t)
  rw [hx]
  unfold Builtin.bitAnd
  rw [show decide (0 ≤ (((2 * q + 1) * 2 ^ t : Nat) : Int)) = true from decide_eq_true (by omega), show decide (0 ≤ 0 - (((2 * q + 1) * 2 ^ t : Nat) : Int)) = false from decide_eq_false (by omega)]
  simp only
  have e : (Builtin.bitNot (0 - (((2 * q + 1) * 2 ^ t : Nat) : Int))).toNat = (2 * q + 1) * 2 ^ t - 1 := by
    unfold Builtin.bitNot
    omega
  rw [e, Int.toNat_natCast, and_pred, pow_nat]
  have e2 : (2 * q + 1) * 2 ^ t = 2 * q * 2 ^ t + 2 ^ t := by rw [Nat.add_mul, Nat.one_mul]
  omega
theorem bitAnd_comm (x y : Int) : Builtin.bitAnd x y = Builtin.bitAnd y x := by
  unfold Builtin.bitAnd
  cases decide (0 ≤ x) <;> cases decide (0 ≤ y) <;> simp only [Nat.and_comm, Nat.or_comm]
theorem bits_pow (t : Nat) : Builtin.Int.intBits ((2 : Int) ^ t) = t + 1 := by
  have e : ((2 : Int) ^ t).natAbs = 2 ^ t := by rw [pow_nat, Int.natAbs_natCast]
  have h1 : Builtin.Int.intBits ((2 : Int) ^ t) ≤ t + 1 := intBits_le_iff.mpr (by rw [e]; exact Nat.pow_lt_pow_right (by decide) (by omega))
  have h2 : ¬ Builtin.Int.intBits ((2 : Int) ^ t) ≤ t := fun h => by
    have := intBits_le_iff.mp h
    rw [e] at this
    omega
  omega
/-! ### the same by p2 -/
theorem p2_def {z : Int} : p2 z = 2 ^ z.toNat := rfl
theorem p2_add {a b : Int} (ha : 0 ≤ a) (hb : 0 ≤ b) : p2 (a + b) = p2 a * p2 b := by
  unfold p2
  rw [← npow_add]
  congr 1
  omega
theorem p2_le {a b : Int} (h : a ≤ b) : p2 a ≤ p2 b := npow_le (by omega)
theorem p2_one (a : Int) : 1 ≤ p2 a := by have := p2_pos (z := a); omega
theorem p2_sub {a b : Int} (ha : 0 ≤ a) (hb : a ≤ b) : p2 b = p2 (b - a) * p2 a := by
  rw [← p2_add (by omega) ha]
  congr 1
  omega
theorem p2_succ {a : Int} (ha : 0 ≤ a) : p2 (a + 1) = 2 * p2 a := by
  rw [p2_add ha (by omega)]
  show p2 a * 2 = _
  omega
theorem p2_le32 {a : Int} (h : a ≤ 32) : p2 a ≤ 4294967296 := p2_le (b := 32) h
theorem p2_dvd {a b : Int} (ha : 0 ≤ a) (hb : a ≤ b) : p2 a ∣ p2 b := ⟨p2 (b - a), by rw [p2_sub ha hb, Int.mul_comm]⟩
theorem mod_of_le {v a b : Int} (ha : 0 ≤ a) (hb : a ≤ b) (h : v % p2 b = 0) : v % p2 a = 0 :=
  Int.emod_eq_zero_of_dvd (Int.dvd_trans (p2_dvd ha hb) (Int.dvd_of_emod_eq_zero h))
theorem zv0 : zv 0 = 32 := rfl
theorem zv_pos {v : Int} : 0 ≤ zv v := Int.natCast_nonneg _
theorem zv_dvd {v z : Int} (h : v ≠ 0) (hz : 0 ≤ z) : v % p2 z = 0 ↔ z ≤ zv v := by
  unfold p2 zv
  rw [dvd_zn h]
  omega
theorem zv_mod (v : Int) : v % p2 (zv v) = 0 := by
  by_cases h : v = 0
  · subst h; rfl
  · exact (zv_dvd h zv_pos).mpr (Int.le_refl _)
theorem zv_le {v : Int} (h0 : 0 ≤ v) (h : v < 4294967296) : zv v ≤ 32 := by
  by_cases c : v = 0
  · rw [c]; exact Int.le_refl _
  · have := zn_lt (v := v) c (n := 32) (by omega)
    unfold zv
    omega
theorem zv_leA {v : Int} (h0 : -4294967296 < v) (h : v < 4294967296) : zv v ≤ 32 := by
  by_cases c : v = 0
  · rw [c]; exact Int.le_refl _
  · have := zn_lt (v := v) c (n := 32) (by omega)
    unfold zv
    omega
theorem zv_neg (v : Int) : zv (-v) = zv v := by unfold zv; rw [zn_neg]
theorem zv_half {v : Int} (h : v ≠ 0) (h2 : v % 2 = 0) : v / 2 ≠ 0 ∧ zv (v / 2) = zv v - 1 ∧ 1 ≤ zv v := by
  obtain ⟨o, t, h1, h3, h4⟩ := odd_of h
  cases t with
  | zero => rw [h3] at h2; omega
  | succ n =>
    have e : v / 2 = o * 2 ^ n := by
      rw [h3, Int.pow_succ, ← Int.mul_assoc]
      exact Int.mul_ediv_cancel _ (by decide)
    refine ⟨by omega, ?_, ?_⟩
    · unfold zv
      rw [e, zn_odd h1, h4]
      omega
    · unfold zv
      rw [h4]
      omega
theorem zv_odd0 {v : Int} (h2 : ¬ v % 2 = 0) : zv v = 0 := by
  have h : v ≠ 0 := fun e => by subst e; exact h2 rfl
  have := (zv_dvd h (z := 1) (by decide)).mpr
  have h0 := zv_pos (v := v)
  by_cases c : 1 ≤ zv v
  · exact absurd (this c) h2
  · omega
theorem mod_lo {x m : Int} (h : 0 < m) : 0 ≤ x % m := Int.emod_nonneg _ (by omega)
theorem mod_hi {x m : Int} (h : 0 < m) : x % m < m := Int.emod_lt_of_pos _ h
theorem mul_mod {a z : Int} : (a * p2 z) % p2 z = 0 := Int.mul_emod_left _ _
theorem mod_add {a b m : Int} (ha : a % m = 0) (hb : b % m = 0) : (a + b) % m = 0 := Int.emod_eq_zero_of_dvd (Int.dvd_add (Int.dvd_of_emod_eq_zero ha) (Int.dvd_of_emod_eq_zero hb))
theorem mod_sub {a b m : Int} (ha : a % m = 0) (hb : b % m = 0) : (a - b) % m = 0 := Int.emod_eq_zero_of_dvd (Int.dvd_sub (Int.dvd_of_emod_eq_zero ha) (Int.dvd_of_emod_eq_zero hb))
theorem world_mod {z : Int} (h0 : 0 ≤ z) (h : z ≤ 32) : (4294967296 : Int) % p2 z = 0 := Int.emod_eq_zero_of_dvd (p2_dvd (b := 32) h0 h)
theorem self_mod {z : Int} : p2 z % p2 z = 0 := Int.emod_self
/-- multiples of a power, one below another -/
theorem mod_gap {a b m : Int} (hm : 0 < m) (ha : a % m = 0) (hb : b % m = 0) (h : a < b) : a + m ≤ b := by
  obtain ⟨i, rfl⟩ := Int.dvd_of_emod_eq_zero ha
  obtain ⟨j, rfl⟩ := Int.dvd_of_emod_eq_zero hb
  have : i < j := by
    by_cases c : i < j
    · exact c
    · have := Int.mul_le_mul_of_nonneg_left (show j ≤ i by omega) (Int.le_of_lt hm)
      omega
  have h2 := Int.mul_le_mul_of_nonneg_left (show i + 1 ≤ j by omega) (Int.le_of_lt hm)
  rw [Int.mul_add, Int.mul_one] at h2
  exact h2
theorem mod_rest {v z : Int} (h0 : 0 ≤ z) (h : z ≤ 32) (hv : v % p2 z = 0) : v % 4294967296 % p2 z = 0 := by
  show v % p2 32 % p2 z = 0
  rw [Int.emod_emod_of_dvd _ (p2_dvd (b := 32) h0 h)]
  exact hv
theorem div_mul_mod {a z : Int} : a / p2 z * p2 z = a - a % p2 z := by
  have := Int.mul_ediv_add_emod a (p2 z)
  rw [Int.mul_comm] at this
  omega
theorem le_mul {x h z : Int} (hx : x % p2 z = 0) (h1 : x ≤ h) : x ≤ h - h % p2 z := by
  have hp := p2_pos (z := z)
  have a := mod_lo (x := h) hp
  have b := mod_hi (x := h) hp
  by_cases c : x ≤ h - h % p2 z
  · exact c
  · have e : (h - h % p2 z) % p2 z = 0 := by rw [← div_mul_mod]; exact mul_mod
    have := mod_gap hp e hx (by omega)
    omega
theorem div_bd {v m : Int} (h0 : 0 ≤ v) (hm : 0 < m) : 0 ≤ v / m ∧ v / m ≤ v := ⟨Int.ediv_nonneg h0 (by omega), Int.ediv_le_self _ h0⟩
theorem mod1 (x : Int) : x % p2 0 = 0 := by show x % 1 = 0; omega


set_option Elab.async false
set_option linter.all false
set_option maxRecDepth 100000
set_option maxHeartbeats 4000000
/-! the data level of each def -/
open PySem L2 G
noncomputable section
def c_law_many : CS := sRet (cCall bMax (aCons (cK (.int 1)) (aCons (cCall bMin (aCons (cK (.int 63)) (aCons (cCall bLen (aCons (cV 0) (aNil))) (aNil)))) (aNil))))
def g_law_many : List D → Cm D := dfn 1 1 c_law_many
theorem u_law_many {a0 : D} {s : Sto} {Q : D → Sto → Prop} {E : XP} {u : Lk2 Q E} (k : ws c_law_many [some a0] s (fun _ t => Q .non t) Q NE NE E) : wp (g_law_many [a0]) s Q E u := wp_dfn rfl k
def c_law_deal : CS := sSeq (sSet 2 (cBin dAdd (cBin dMul (cK (.int 7919)) (cV 1)) (cK (.int 11)))) (sSeq (sSet 3 (cK (.int 1))) (sSeq (sIf (tE (cBin dGt (cCall bLen (aCons (cV 0) (aNil))) (cK (.int 0)))) (sSeq (sSet 2 (cBin dAdd (cBin dMul (cBin dIx (cV 0) (cBin dMod (cV 1) (cCall bLen (aCons (cV 0) (aNil))))) (cK (.int 48271))) (cBin dMul (cBin dMul (cK (.int 7919)) (cV 1)) (cV 1)))) (sSet 3 (cBin dMod (cBin dIx (cV 0) (cK (.int 0))) (cK (.int 2))))) (sNil)) (sSeq (sIf (tE (cBin dGe (cV 1) (cCall bLen (aCons (cV 0) (aNil))))) (sSet 3 (cK (.int 1))) (sNil)) (sSeq (sSet 4 (cK (.int 0))) (sSeq (sIf (tE (cBin dLt (cV 1) (cCall bLen (aCons (cV 0) (aNil))))) (sSet 4 (cBin dIx (cV 0) (cV 1))) (sNil)) (sSeq (sIf (tE (cBin dLt (cV 4) (cK (.int 0)))) (sSet 4 (cBin dSub (cK (.int 0)) (cV 4))) (sNil)) (sRet (cLst (aCons (cV 3) (aCons (cV 4) (aCons (cBin dAdd (cBin dMod (cV 2) (cK (.int 2147483647))) (cBin dMod (cV 4) (cK (.int 2147483629)))) (aNil))))))))))))
def g_law_deal : List D → Cm D := dfn 2 5 c_law_deal
theorem u_law_deal {a0 a1 : D} {s : Sto} {Q : D → Sto → Prop} {E : XP} {u : Lk2 Q E} (k : ws c_law_deal [some a0, some a1, none, none, none] s (fun _ t => Q .non t) Q NE NE E) : wp (g_law_deal [a0, a1]) s Q E u := wp_dfn rfl k
def c_law_draw : CS := sSeq (sIf (tAnd' (tE (cBin dEq (cBin dIx (cV 0) (cK (.int 0))) (cK (.int 0)))) (tE (cBin dGt (cBin dIx (cV 0) (cK (.int 1))) (cK (.int 0))))) (sSeq (sSet 5 (cBin dMod (cBin dIx (cV 0) (cK (.int 1))) (cV 1))) (sSeq (sPut dPutL (cV 0) (cK (.int 1)) (cBin dDiv (cBin dIx (cV 0) (cK (.int 1))) (cV 1))) (sRet (cV 5)))) (sNil)) (sSeq (sSet 2 (cBin dMod (cBin dAdd (cBin dMul (cBin dIx (cV 0) (cK (.int 2))) (cK (.int 48271))) (cK (.int 7919))) (cK (.int 2147483647)))) (sSeq (sPut dPutL (cV 0) (cK (.int 2)) (cBin dMod (cBin dAdd (cBin dMul (cV 2) (cK (.int 40692))) (cK (.int 104729))) (cK (.int 2147483399)))) (sSeq (sSet 3 (cBin dMod (cBin dMul (cV 2) (cV 2)) (cK (.int 2147483629)))) (sSeq (sSet 4 (cBin dMod (cBin dMul (cBin dIx (cV 0) (cK (.int 2))) (cBin dIx (cV 0) (cK (.int 2)))) (cK (.int 2147483563)))) (sRet (cBin dMod (cBin dAdd (cBin dMul (cV 3) (cK (.int 2147483563))) (cV 4)) (cV 1)))))))
def g_law_draw : List D → Cm D := dfn 2 6 c_law_draw
theorem u_law_draw {a0 a1 : D} {s : Sto} {Q : D → Sto → Prop} {E : XP} {u : Lk2 Q E} (k : ws c_law_draw [some a0, some a1, none, none, none, none] s (fun _ t => Q .non t) Q NE NE E) : wp (g_law_draw [a0, a1]) s Q E u := wp_dfn rfl k
def c_rest : CS := sRet (cBin dMod (cV 0) (cBin dShl (cK (.int 1)) (cV 1)))
def g_rest : List D → Cm D := dfn 2 2 c_rest
theorem u_rest {a0 a1 : D} {s : Sto} {Q : D → Sto → Prop} {E : XP} {u : Lk2 Q E} (k : ws c_rest [some a0, some a1] s (fun _ t => Q .non t) Q NE NE E) : wp (g_rest [a0, a1]) s Q E u := wp_dfn rfl k
def c_length_of : CS := sSeq (sIf (tE (cBin dEq (cBin dIx (cV 0) (cK (.int 0))) (cK (.str "put")))) (sRet (cK (.int 2))) (sNil)) (sRet (cK (.int 1)))
def g_length_of : List D → Cm D := dfn 1 1 c_length_of
theorem u_length_of {a0 : D} {s : Sto} {Q : D → Sto → Prop} {E : XP} {u : Lk2 Q E} (k : ws c_length_of [some a0] s (fun _ t => Q .non t) Q NE NE E) : wp (g_length_of [a0]) s Q E u := wp_dfn rfl k
def c_law_signs : CS := sSeq (sSet 1 (cK (.str ""))) (sSeq (sFor (iRng (cK (.int 8))) (.v 2) (sSeq (sSet 1 (cBin dAdd (cBin dIx (cK (.str "0123456789abcdef")) (cBin dMod (cV 0) (cK (.int 16)))) (cV 1))) (sSet 0 (cBin dDiv (cV 0) (cK (.int 16)))))) (sRet (cV 1)))
def g_law_signs : List D → Cm D := dfn 1 3 c_law_signs
theorem u_law_signs {a0 : D} {s : Sto} {Q : D → Sto → Prop} {E : XP} {u : Lk2 Q E} (k : ws c_law_signs [some a0, none, none] s (fun _ t => Q .non t) Q NE NE E) : wp (g_law_signs [a0]) s Q E u := wp_dfn rfl k
def c_word_text : CS := sRet (cM1 dJoin (cK (.str "")) (cLc (iRevR (cK (.int 8))) (.v 1) [1] (tYesD) (cBin dIx (cK (.str "0123456789abcdef")) (cCall g_rest (aCons (cBin dShr (cV 0) (cBin dMul (cK (.int 4)) (cV 1))) (aCons (cK (.int 4)) (aNil)))))))
def g_word_text : List D → Cm D := dfn 1 2 c_word_text
theorem u_word_text {a0 : D} {s : Sto} {Q : D → Sto → Prop} {E : XP} {u : Lk2 Q E} (k : ws c_word_text [some a0, none] s (fun _ t => Q .non t) Q NE NE E) : wp (g_word_text [a0]) s Q E u := wp_dfn rfl k
def c_code_text : CS := sSeq (sSet 1 (cLst (aNil))) (sSeq (sFor (iRngS (cK (.int 0)) (cCall bLen (aCons (cV 0) (aNil))) (8)) (.v 2) (sDrop (cBmL dApp (cV 1) (aCons (cM1 dJoin (cK (.str " ")) (cLc (iSeq (cSl (cV 0) (oSome (cV 2)) (oSome (cBin dAdd (cV 2) (cK (.int 8)))))) (.v 3) [3] (tYesD) (cCall g_word_text (aCons (cV 3) (aNil))))) (aNil))))) (sRet (cM1 dJoin (cK (.str "\n")) (cV 1))))
def g_code_text : List D → Cm D := dfn 1 4 c_code_text
theorem u_code_text {a0 : D} {s : Sto} {Q : D → Sto → Prop} {E : XP} {u : Lk2 Q E} (k : ws c_code_text [some a0, none, none, none] s (fun _ t => Q .non t) Q NE NE E) : wp (g_code_text [a0]) s Q E u := wp_dfn rfl k
def c_law_written : CS := sSeq (sSet 1 (cLst (aNil))) (sSeq (sFor (iRngS (cK (.int 0)) (cCall bLen (aCons (cV 0) (aNil))) (8)) (.v 2) (sDrop (cBmL dApp (cV 1) (aCons (cM1 dJoin (cK (.str " ")) (cLc (iSeq (cSl (cV 0) (oSome (cV 2)) (oSome (cBin dAdd (cV 2) (cK (.int 8)))))) (.v 3) [3] (tYesD) (cCall g_law_signs (aCons (cV 3) (aNil))))) (aNil))))) (sRet (cM1 dJoin (cK (.str "\n")) (cV 1))))
def g_law_written : List D → Cm D := dfn 1 4 c_law_written
theorem u_law_written {a0 : D} {s : Sto} {Q : D → Sto → Prop} {E : XP} {u : Lk2 Q E} (k : ws c_law_written [some a0, none, none, none] s (fun _ t => Q .non t) Q NE NE E) : wp (g_law_written [a0]) s Q E u := wp_dfn rfl k
def c_law_loose_1 : CS := sSeq (sSet 2 (cPick (cChk (aCons (cK (.str "")) (aCons (cK (.str " ")) (aCons (cK (.str "\n")) (aCons (cK (.str "\n \n")) (aNil)))))) (cCall g_law_draw (aCons (cCall g_law_deal (aCons (cV 0) (aCons (cK (.int 0)) (aNil)))) (aCons (cK (.int 4)) (aNil)))))) (sSeq (sFor (iRng (cCall bLen (aCons (cV 1) (aNil)))) (.v 3) (sSeq (sSet 4 (cCall g_law_deal (aCons (cV 0) (aCons (cBin dMod (cV 3) (cK (.int 63))) (aNil))))) (sSet 2 (cBin dAdd (cBin dAdd (cV 2) (cBin dIx2 (cV 1) (cV 3))) (cPick (cChk (aCons (cK (.str " ")) (aCons (cK (.str "  ")) (aCons (cK (.str "\n")) (aCons (cK (.str " \n")) (aCons (cK (.str "\n\n ")) (aNil))))))) (cCall g_law_draw (aCons (cV 4) (aCons (cK (.int 5)) (aNil))))))))) (sRet (cV 2)))
def g_law_loose_1 : List D → Cm D := dfn 2 5 c_law_loose_1
theorem u_law_loose_1 {a0 a1 : D} {s : Sto} {Q : D → Sto → Prop} {E : XP} {u : Lk2 Q E} (k : ws c_law_loose_1 [some a0, some a1, none, none, none] s (fun _ t => Q .non t) Q NE NE E) : wp (g_law_loose_1 [a0, a1]) s Q E u := wp_dfn rfl k
def c_is_word_1 : CS := sSeq (sFor (iSeq (cV 0)) (.v 1) (sIf (tE (cBin (dInS true) (cV 1) (cK (.str "0123456789abcdef")))) (sRet (cK (.bl false))) (sNil))) (sRet (cBin dEq (cCall bLen (aCons (cV 0) (aNil))) (cK (.int 8))))
def g_is_word_1 : List D → Cm D := dfn 1 2 c_is_word_1
theorem u_is_word_1 {a0 : D} {s : Sto} {Q : D → Sto → Prop} {E : XP} {u : Lk2 Q E} (k : ws c_is_word_1 [some a0, none] s (fun _ t => Q .non t) Q NE NE E) : wp (g_is_word_1 [a0]) s Q E u := wp_dfn rfl k
def c_read_code : CS := sSeq (sSet 1 (cLst (aNil))) (sSeq (sFor (iEnum 1 (cM1 dSplit (cV 0) (cK (.str "\n")))) (.t [2, 3]) (sFor (iSeq (cM1 dSplit (cV 3) (cK (.str " ")))) (.v 4) (sIf (tE (cBin dNe (cV 4) (cK (.str "")))) (sSeq (sIf (tNot' (tE (cCall g_is_word_1 (aCons (cV 4) (aNil))))) (sNever) (sNil)) (sSeq (sSet 5 (cK (.int 0))) (sSeq (sFor (iSeq (cV 4)) (.v 6) (sSet 5 (cBin dAdd (cBin dMul (cV 5) (cK (.int 16))) (cM1 dIdxS (cK (.str "0123456789abcdef")) (cV 6))))) (sDrop (cBmL dApp (cV 1) (aCons (cV 5) (aNil))))))) (sNil)))) (sRet (cV 1)))
def g_read_code : List D → Cm D := dfn 1 7 c_read_code
theorem u_read_code {a0 : D} {s : Sto} {Q : D → Sto → Prop} {E : XP} {u : Lk2 Q E} (k : ws c_read_code [some a0, none, none, none, none, none, none] s (fun _ t => Q .non t) Q NE NE E) : wp (g_read_code [a0]) s Q E u := wp_dfn rfl k
def c_law_piece : CS := sSeq (sSet 1 (cCall g_law_signs (aCons (cCall g_law_draw (aCons (cV 0) (aCons (cBin dPow (cK (.int 2)) (cK (.int 32))) (aNil)))) (aNil)))) (sSeq (sSet 2 (cCall g_law_draw (aCons (cV 0) (aCons (cK (.int 8)) (aNil))))) (sSeq (sSet 3 (cLst (aCons (cBin dAdd (cK (.str "+")) (cSlS (cV 1) (oSome (cK (.int 1))) (oNone))) (aCons (cBin dAdd (cBin dAdd (cSlS (cV 1) (oNone) (oSome (cBin dAdd (cBin dMod (cV 2) (cK (.int 6))) (cK (.int 1))))) (cK (.str "_"))) (cSlS (cV 1) (oSome (cBin dAdd (cBin dMod (cV 2) (cK (.int 6))) (cK (.int 2)))) (oNone))) (aCons (cSlS (cV 1) (oSome (cK (.int 1))) (oNone)) (aCons (cBin dAdd (cV 1) (cK (.str "0"))) (aCons (cK (.str "x")) (aCons (cBin dAdd (cK (.str "0x")) (cV 1)) (aNil))))))))) (sSeq (sSet 3 (cBin dAdd (cV 3) (cLst (aCons (cBin dAdd (cBin dAdd (cSlS (cV 1) (oNone) (oSome (cV 2))) (cK (.str "g"))) (cSlS (cV 1) (oSome (cBin dAdd (cV 2) (cK (.int 1)))) (oNone))) (aCons (cBin dAdd (cBin dAdd (cSlS (cV 1) (oNone) (oSome (cV 2))) (cK (.str "A"))) (cSlS (cV 1) (oSome (cBin dAdd (cV 2) (cK (.int 1)))) (oNone))) (aNil)))))) (sSeq (sSet 3 (cBin dAdd (cV 3) (cLst (aCons (cBin dAdd (cBin dAdd (cSlS (cV 1) (oNone) (oSome (cV 2))) (cK (.str "-"))) (cSlS (cV 1) (oSome (cBin dAdd (cV 2) (cK (.int 1)))) (oNone))) (aCons (cBin dAdd (cV 1) (cV 1)) (aCons (cBin dAdd (cBin dAdd (cV 1) (cUn dRevS (cV 1))) (cV 1)) (aNil))))))) (sRet (cBin dIx2 (cBin dAdd (cV 3) (cLst (aCons (cBin dAdd (cBin dAdd (cSlS (cV 1) (oNone) (oSome (cBin dAdd (cBin dMod (cV 2) (cK (.int 7))) (cK (.int 1))))) (cK (.str " "))) (cSlS (cV 1) (oSome (cBin dAdd (cBin dMod (cV 2) (cK (.int 7))) (cK (.int 1)))) (oNone))) (aCons (cBin dAdd (cBin dAdd (cSlS (cV 1) (oSome (cK (.int 1))) (oNone)) (cK (.str " 0"))) (cV 1)) (aNil))))) (cCall g_law_draw (aCons (cV 0) (aCons (cK (.int 13)) (aNil))))))))))
def g_law_piece : List D → Cm D := dfn 1 4 c_law_piece
theorem u_law_piece {a0 : D} {s : Sto} {Q : D → Sto → Prop} {E : XP} {u : Lk2 Q E} (k : ws c_law_piece [some a0, none, none, none] s (fun _ t => Q .non t) Q NE NE E) : wp (g_law_piece [a0]) s Q E u := wp_dfn rfl k
def c_read_code_r : CS := sSeq (sSet 1 (cLst (aNil))) (sSeq (sFor (iEnum 1 (cM1 dSplit (cV 0) (cK (.str "\n")))) (.t [2, 3]) (sFor (iSeq (cM1 dSplit (cV 3) (cK (.str " ")))) (.v 4) (sIf (tE (cBin dNe (cV 4) (cK (.str "")))) (sSeq (sIf (tNot' (tE (cCalm g_is_word_1 (aCons (cV 4) (aNil))))) (sRaise "NoText" ["line"] (aCons (cV 2) (aNil))) (sNil)) (sSeq (sSet 5 (cK (.int 0))) (sSeq (sFor (iSeq (cV 4)) (.v 6) (sSet 5 (cBin dAdd (cBin dMul (cV 5) (cK (.int 16))) (cM1 dIdxS (cK (.str "0123456789abcdef")) (cV 6))))) (sDrop (cBmL dApp (cV 1) (aCons (cV 5) (aNil))))))) (sNil)))) (sRet (cV 1)))
def g_read_code_r : List D → Cm D := dfr 1 7 c_read_code_r
theorem u_read_code_r {a0 : D} {s : Sto} {Q : D → Sto → Prop} {E : XP} {u : Lk2 Q E} (k : ws c_read_code_r [some a0, none, none, none, none, none, none] s (fun _ t => Q .non t) Q NE NE E) : wp (g_read_code_r [a0]) s Q E u := wp_dfr rfl k
def c_law_refused_1 : CS := sSeq (sSet 1 (cK (.int 0))) (sSeq (sTryA 3 ["NoText"] (sDrop (cCall g_read_code_r (aCons (cV 0) (aNil)))) (sSeq (sSet 2 (cLst (aCons (cUn (dIsE [] ["NoText"]) (cV 3)) (aCons (cUn (dIsE [] ["NoText"]) (cV 3)) (aCons (cUn (dIsE [] ["NoText"]) (cV 3)) (aNil)))))) (sIf (tAnd' (tE (cUn (dIsE ["NoText"] []) (cV 3))) (tAnd' (tE (cBin (dIn2 true) (cK (.bl true)) (cV 2))) (tNot' (tE (cUn (dIsi "bool") (cUn (dXfR ["NoText"] "line") (cV 3))))))) (sSet 1 (cUn (dXfR ["NoText"] "line") (cV 3))) (sNil)))) (sRet (cV 1)))
def g_law_refused_1 : List D → Cm D := dfn 1 4 c_law_refused_1
theorem u_law_refused_1 {a0 : D} {s : Sto} {Q : D → Sto → Prop} {E : XP} {u : Lk2 Q E} (k : ws c_law_refused_1 [some a0, none, none, none] s (fun _ t => Q .non t) Q NE NE E) : wp (g_law_refused_1 [a0]) s Q E u := wp_dfn rfl k
def c_law_k14 : CS := sSeq (sSet 1 (cCall g_law_many (aCons (cV 0) (aNil)))) (sSeq (sSet 2 (cLc (iRng (cV 1)) (.v 12) [12] (tYesD) (cCall g_law_draw (aCons (cCall g_law_deal (aCons (cV 0) (aCons (cV 12) (aNil)))) (aCons (cBin dPow (cK (.int 2)) (cK (.int 32))) (aNil)))))) (sSeq (sSet 3 (cCall g_law_draw (aCons (cCall g_law_deal (aCons (cV 0) (aCons (cBin dSub (cV 1) (cK (.int 1))) (aNil)))) (aCons (cK (.int 9)) (aNil))))) (sSeq (sIf (tE (cBin dEq (cV 3) (cK (.int 3)))) (sSet 2 (cLst (aNil))) (sNil)) (sSeq (sIf (tE (cBin dEq (cV 3) (cK (.int 4)))) (sSet 2 (cBin dMul (cV 2) (cK (.int 4)))) (sNil)) (sSeq (sSet 4 (cLc (iSeq (cV 2)) (.v 13) [13] (tYesD) (cCall g_law_signs (aCons (cV 13) (aNil))))) (sSeq (sSet 5 (cCall bList (aCons (cV 2) (aNil)))) (sSeq (sIf (tOr' (tE (cBin dNe2 (cCall g_code_text (aCons (cV 5) (aNil))) (cCall g_law_written (aCons (cV 2) (aNil))))) (tE (cBin dNe2 (cV 5) (cV 2)))) (sRet (cK (.bl false))) (sNil)) (sSeq (sFor (iSeq (cLst (aCons (cCall g_law_written (aCons (cV 2) (aNil))) (aCons (cCall g_law_loose_1 (aCons (cV 0) (aCons (cV 4) (aNil)))) (aNil))))) (.v 6) (sSeq (sSet 11 (cCall g_read_code (aCons (cV 6) (aNil)))) (sSeq (sIf (tOr' (tNot' (tE (cUn (dIsi "list") (cV 11)))) (tE (cBin dNe2 (cV 11) (cV 2)))) (sRet (cK (.bl false))) (sNil)) (sDrop (cBmL dApp (cV 11) (aCons (cK (.int 0)) (aNil))))))) (sSeq (sSet 7 (cCall g_law_deal (aCons (cV 0) (aCons (cBin dSub (cV 1) (cK (.int 1))) (aNil))))) (sSeq (sSet 8 (cCall g_law_draw (aCons (cV 7) (aCons (cBin dAdd (cCall bLen (aCons (cV 4) (aNil))) (cK (.int 1))) (aNil))))) (sSeq (sSet 9 (cCall g_law_piece (aCons (cV 7) (aNil)))) (sSeq (sSet 10 (cCall g_law_loose_1 (aCons (cV 0) (aCons (cSl (cV 4) (oNone) (oSome (cV 8))) (aNil))))) (sSeq (sSet 6 (cBin dAdd (cBin dAdd (cBin dAdd (cV 10) (cV 9)) (cK (.str " "))) (cCall g_law_loose_1 (aCons (cV 0) (aCons (cSl (cV 4) (oSome (cV 8)) (oNone)) (aNil)))))) (sSeq (sIf (tE (cBin dEq (cCall g_law_draw (aCons (cV 7) (aCons (cK (.int 2)) (aNil)))) (cK (.int 0)))) (sSet 6 (cBin dAdd (cBin dAdd (cV 6) (cK (.str "\n"))) (cCall g_law_piece (aCons (cV 7) (aNil))))) (sNil)) (sRet (cAnd (cBin dEq2 (cCall g_law_refused_1 (aCons (cV 6) (aNil))) (cBin dAdd (cK (.int 1)) (cM1 dCntS (cV 10) (cK (.str "\n"))))) (cBin dEq2 (cCall g_read_code (aCons (cCall g_law_written (aCons (cV 2) (aNil))) (aNil))) (cV 2))))))))))))))))))
def g_law_k14 : List D → Cm D := dfn 1 14 c_law_k14
theorem u_law_k14 {a0 : D} {s : Sto} {Q : D → Sto → Prop} {E : XP} {u : Lk2 Q E} (k : ws c_law_k14 [some a0, none, none, none, none, none, none, none, none, none, none, none, none, none] s (fun _ t => Q .non t) Q NE NE E) : wp (g_law_k14 [a0]) s Q E u := wp_dfn rfl k
def c_law_draw_1 : CS := sSeq (sIf (tE (cInA true (cBin dIx (cV 0) (cK (.int 0))) (cChk (aCons (cK (.int 0)) (aCons (cUn dNeg (cK (.int 1))) (aNil)))))) (sSeq (sSet 2 (cBin dIx (cV 0) (cK (.int 0)))) (sSeq (sPut dPutL (cV 0) (cK (.int 0)) (cBin dDiv (cV 2) (cV 1))) (sRet (cBin dMod (cV 2) (cV 1))))) (sNil)) (sSeq (sSet 2 (cBin dMod (cBin dAdd (cBin dMul (cBin dIx (cV 0) (cK (.int 1))) (cK (.int 48271))) (cK (.int 7919))) (cK (.int 2147483647)))) (sSeq (sPut dPutL (cV 0) (cK (.int 1)) (cBin dMod (cBin dAdd (cBin dMul (cV 2) (cK (.int 40692))) (cK (.int 104729))) (cK (.int 2147483399)))) (sSeq (sSet 3 (cBin dMod (cBin dMul (cV 2) (cV 2)) (cK (.int 2147483629)))) (sSeq (sSet 4 (cBin dMod (cBin dMul (cBin dIx (cV 0) (cK (.int 1))) (cBin dIx (cV 0) (cK (.int 1)))) (cK (.int 2147483563)))) (sRet (cBin dMod (cBin dAdd (cBin dMul (cV 3) (cK (.int 2147483563))) (cV 4)) (cV 1)))))))
def g_law_draw_1 : List D → Cm D := dfn 2 5 c_law_draw_1
theorem u_law_draw_1 {a0 a1 : D} {s : Sto} {Q : D → Sto → Prop} {E : XP} {u : Lk2 Q E} (k : ws c_law_draw_1 [some a0, some a1, none, none, none] s (fun _ t => Q .non t) Q NE NE E) : wp (g_law_draw_1 [a0, a1]) s Q E u := wp_dfn rfl k
def c_law_draw_3 : CS := sSeq (sUnp2 [3, 4] (cSl (cV 0) (oNone) (oSome (cK (.int 2))))) (sSeq (sPut dPut2 (cV 0) (cK (.int 1)) (cBin dAdd (cV 4) (cK (.int 1)))) (sSeq (sIf (tAnd' (tE (cBin dLt (cBin dDiv (cV 4) (cK (.int 30))) (cCall bLen (aCons (cV 3) (aNil))))) (tE (cBin dGe (cCall bAbs (aCons (cBin dIx2 (cV 3) (cBin dDiv (cV 4) (cK (.int 30)))) (aNil))) (cBin dPow (cK (.int 10)) (cK (.int 18)))))) (sSeq (sIf (tE (cBin dEq (cBin dMod (cV 4) (cK (.int 30))) (cK (.int 0)))) (sPut dPut2 (cV 0) (cK (.int 2)) (cCall bAbs (aCons (cBin dIx2 (cV 3) (cBin dDiv (cV 4) (cK (.int 30)))) (aNil)))) (sNil)) (sIf (tE (cBin dGt (cBin dIx2 (cV 0) (cK (.int 2))) (cK (.int 0)))) (sSeq (sSet 5 (cBin dMod (cBin dIx2 (cV 0) (cK (.int 2))) (cV 1))) (sSeq (sPut dPut2 (cV 0) (cK (.int 2)) (cBin dDiv (cBin dIx2 (cV 0) (cK (.int 2))) (cV 1))) (sRet (cV 5)))) (sNil))) (sNil)) (sSeq (sSet 2 (cBin dAdd (cBin dMul (cV 4) (cK (.int 7919))) (cK (.int 5)))) (sSeq (sIf (tE (cBin dGt (cCall bLen (aCons (cV 3) (aNil))) (cK (.int 0)))) (sSet 2 (cBin dAdd (cV 2) (cBin dMul (cBin dMod (cBin dIx2 (cV 3) (cBin dMod (cBin dMul (cV 4) (cK (.int 7))) (cCall bLen (aCons (cV 3) (aNil))))) (cK (.int 2147483629))) (cBin dAdd (cK (.int 48271)) (cV 4))))) (sNil)) (sSeq (sSet 2 (cBin dMod (cBin dMul (cBin dMod (cV 2) (cK (.int 2147483629))) (cBin dAdd (cV 4) (cK (.int 3)))) (cK (.int 2147483629)))) (sSeq (sSet 2 (cBin dMod (cBin dMul (cV 2) (cV 2)) (cK (.int 2147483587)))) (sRet (cBin dMod (cBin dMul (cBin dMod (cBin dMul (cV 2) (cV 2)) (cK (.int 1999999973))) (cK (.int 1000000007))) (cV 1)))))))))
def g_law_draw_3 : List D → Cm D := dfn 2 6 c_law_draw_3
theorem u_law_draw_3 {a0 a1 : D} {s : Sto} {Q : D → Sto → Prop} {E : XP} {u : Lk2 Q E} (k : ws c_law_draw_3 [some a0, some a1, none, none, none, none] s (fun _ t => Q .non t) Q NE NE E) : wp (g_law_draw_3 [a0, a1]) s Q E u := wp_dfn rfl k
def c_law_goes_1 : CS := sSeq (sIf (tOr' (tE (cBin dEq (cBin dIx2 (cV 0) (cK (.int 0))) (cK (.str "jump")))) (tAnd' (tE (cBin dEq (cBin dIx2 (cV 0) (cK (.int 0))) (cK (.str "jumpif")))) (tE (cBin dNe (cBin dIx2 (cV 2) (cBin dIx2 (cV 0) (cK (.int 1)))) (cK (.int 0)))))) (sRet (cBin dIx2 (cV 0) (cUn dNeg (cK (.int 1))))) (sNil)) (sSeq (sIf (tE (cBin dEq (cBin dIx2 (cV 0) (cK (.int 0))) (cK (.str "through")))) (sRet (cBin dIx2 (cV 2) (cBin dIx2 (cV 0) (cK (.int 1))))) (sNil)) (sRet (cBin dAdd (cBin dAdd (cV 1) (cK (.int 1))) (cCall bInt (aCons (cBin dEq (cBin dIx2 (cV 0) (cK (.int 0))) (cK (.str "put"))) (aNil))))))
def g_law_goes_1 : List D → Cm D := dfn 3 3 c_law_goes_1
theorem u_law_goes_1 {a0 a1 a2 : D} {s : Sto} {Q : D → Sto → Prop} {E : XP} {u : Lk2 Q E} (k : ws c_law_goes_1 [some a0, some a1, some a2] s (fun _ t => Q .non t) Q NE NE E) : wp (g_law_goes_1 [a0, a1, a2]) s Q E u := wp_dfn rfl k
def c_law_gate : CS := sSeq (sIf (tE (cBin dGe (cV 1) (cBin dIx2 (cV 0) (cK (.int 4))))) (sRet (cTup (aCons (cK (.str "lost")) (aNil)))) (sNil)) (sSeq (sDrop (cBmL dApp (cV 4) (aCons (cTup (aCons (cV 1) (aCons (cCall bTuple (aCons (cV 2) (aNil))) (aCons (cCall bDict (aCons (cV 3) (aNil))) (aNil))))) (aNil)))) (sSeq (sIf (tE (cBin dGt (cCall bLen (aCons (cV 4) (aNil))) (cCall bLen (aCons (cV 5) (aNil))))) (sRet (cTup (aCons (cK (.str "asks")) (aCons (cV 1) (aNil))))) (sNil)) (sSeq (sUnp2 [8, 9] (cBin dIx2 (cV 5) (cBin dSub (cCall bLen (aCons (cV 4) (aNil))) (cK (.int 1))))) (sSeq (sFor (iRng (cK (.int 7))) (.v 6) (sPut dPut2 (cV 2) (cV 6) (cBin dIx2 (cV 8) (cV 6)))) (sSeq (sLock 9 (sFor (iKeysF 9) (.v 7) (sPut dPut2 (cV 3) (cV 7) (cBin dIx2 (cV 9) (cV 7))))) (sRet (cK .non)))))))
def g_law_gate : List D → Cm D := dfn 6 10 c_law_gate
theorem u_law_gate {a0 a1 a2 a3 a4 a5 : D} {s : Sto} {Q : D → Sto → Prop} {E : XP} {u : Lk2 Q E} (k : ws c_law_gate [some a0, some a1, some a2, some a3, some a4, some a5, none, none, none, none] s (fun _ t => Q .non t) Q NE NE E) : wp (g_law_gate [a0, a1, a2, a3, a4, a5]) s Q E u := wp_dfn rfl k
def c_law_reach : CS := sSeq (sSet 4 (cBin dMod (cBin dAdd (cBin dIx2 (cV 2) (cBin dIx2 (cV 1) (cK (.int 2)))) (cBin dIx2 (cV 1) (cK (.int 3)))) (cBin dPow (cK (.int 2)) (cK (.int 32))))) (sSeq (sIf (tNot' (tE (cChain dLe dLt (cBin dIx2 (cV 0) (cK (.int 1))) (cV 4) (cBin dAdd (cBin dIx2 (cV 0) (cK (.int 1))) (cBin dShl (cK (.int 1)) (cBin dIx2 (cV 0) (cK (.int 0)))))))) (sRet (cV 4)) (sNil)) (sSeq (sIf (tE (cBin dEq (cBin dIx2 (cV 1) (cK (.int 0))) (cK (.str "store")))) (sPut dPut2 (cV 3) (cV 4) (cBin dIx2 (cV 2) (cBin dIx2 (cV 1) (cK (.int 1))))) (sPut dPut2 (cV 2) (cBin dIx2 (cV 1) (cK (.int 1))) (cGetD (cV 3) (cV 4) (cK (.int 0))))) (sRet (cK .non))))
def g_law_reach : List D → Cm D := dfn 4 5 c_law_reach
theorem u_law_reach {a0 a1 a2 a3 : D} {s : Sto} {Q : D → Sto → Prop} {E : XP} {u : Lk2 Q E} (k : ws c_law_reach [some a0, some a1, some a2, some a3, none] s (fun _ t => Q .non t) Q NE NE E) : wp (g_law_reach [a0, a1, a2, a3]) s Q E u := wp_dfn rfl k
def c_Machine_onward : CS := sSeq (sSet 2 (cBin dIx2 (cV 1) (cK (.int 0)))) (sSeq (sIf (tOr' (tE (cBin dEq (cV 2) (cK (.str "jump")))) (tAnd' (tE (cBin dEq (cV 2) (cK (.str "jumpif")))) (tE (cBin dNe (cBin dIx2 (cUn (dFld "Machine" "boxes") (cV 0)) (cBin dIx2 (cV 1) (cK (.int 1)))) (cK (.int 0)))))) (sRet (cBin dIx2 (cV 1) (cUn dNeg (cK (.int 1))))) (sNil)) (sSeq (sIf (tE (cBin dEq (cV 2) (cK (.str "through")))) (sRet (cBin dIx2 (cUn (dFld "Machine" "boxes") (cV 0)) (cBin dIx2 (cV 1) (cK (.int 1))))) (sNil)) (sRet (cBin dAdd (cUn (dFld "Machine" "place") (cV 0)) (cCall g_length_of (aCons (cV 1) (aNil)))))))
def g_Machine_onward : List D → Cm D := dfn 2 3 c_Machine_onward
theorem u_Machine_onward {a0 a1 : D} {s : Sto} {Q : D → Sto → Prop} {E : XP} {u : Lk2 Q E} (k : ws c_Machine_onward [some a0, some a1, none] s (fun _ t => Q .non t) Q NE NE E) : wp (g_Machine_onward [a0, a1]) s Q E u := wp_dfn rfl k
def c_law_whole_1 : CS := sRet (cAnd (cUn (dIsi "int") (cV 0)) (cNot (cUn (dIsi "bool") (cV 0))))
def g_law_whole_1 : List D → Cm D := dfn 1 1 c_law_whole_1
theorem u_law_whole_1 {a0 : D} {s : Sto} {Q : D → Sto → Prop} {E : XP} {u : Lk2 Q E} (k : ws c_law_whole_1 [some a0] s (fun _ t => Q .non t) Q NE NE E) : wp (g_law_whole_1 [a0]) s Q E u := wp_dfn rfl k
def c_law_alike_3 (g : List D → Cm D) : CS := sSeq (sIf (tOr' (tE (cUn (dIsi "tuple") (cV 1))) (tE (cUn (dIsi "list") (cV 1)))) (sSeq (sIf (tOr' (tE (cBin dNe2 (cUn (dIsi "tuple") (cV 0)) (cUn (dIsi "tuple") (cV 1)))) (tE (cBin dNe2 (cUn (dIsi "list") (cV 0)) (cUn (dIsi "list") (cV 1))))) (sRet (cK (.bl false))) (sNil)) (sRet (cAnd (cBin dEq2 (cCall bLen (aCons (cV 0) (aNil))) (cCall bLen (aCons (cV 1) (aNil)))) (cAllA (cLcA (iZip (cV 0) (cV 1)) (.t [2, 3]) [2, 3] (tYesD) (cCall g (aCons (cV 2) (aCons (cV 3) (aNil))))))))) (sNil)) (sSeq (sIf (tE (cUn (dIsi "dict") (cV 1))) (sSeq (sIf (tOr' (tNot' (tE (cUn (dIsi "dict") (cV 0)))) (tNot' (tE (cAllA (aLock 0 (cLcA (iKeysF 0) (.v 4) [4] (tYesD) (cCall g_law_whole_1 (aCons (cBin dIx2 (cV 0) (cV 4)) (aNil))))))))) (sRet (cK (.bl false))) (sNil)) (sRet (cBin dEq2 (cV 0) (cV 1)))) (sNil)) (sRet (cAnd (cOr (cCall g_law_whole_1 (aCons (cV 0) (aNil))) (cUn (dIsi "str") (cV 0))) (cBin dEq2 (cV 0) (cV 1)))))
def g_rlaw_alike_3 (n : Nat) : List D → Cm D := n.rec (dfn 2 5 fun _ => noC) (fun _ g => dfn 2 5 (c_law_alike_3 g))
def g_law_alike_3 : List D → Cm D := g_rlaw_alike_3 6
theorem u_law_alike_3 {n : Nat} {a0 a1 : D} {s : Sto} {Q : D → Sto → Prop} {E : XP} {u : Lk2 Q E} (k : ws (c_law_alike_3 (g_rlaw_alike_3 n)) [some a0, some a1, none, none, none] s (fun _ t => Q .non t) Q NE NE E) : wp (g_rlaw_alike_3 (n + 1) [a0, a1]) s Q E u := wp_dfn (c := c_law_alike_3 (g_rlaw_alike_3 n)) rfl k
end


set_option Elab.async false
set_option linter.all false
set_option maxRecDepth 100000
set_option maxHeartbeats 4000000
/-! instructions as words: k12 -/
open PySem L2 G
local macro_rules | `(tactic| top_raise0) => `(tactic| first | omega | (unfold mulOk; omega) | ((repeat' (apply And.intro)) <;> first | omega | with_reducible assumption | rfl | (unfold mulOk; omega)))
local macro_rules | `(tactic| k_upd) => `(tactic| first | with_reducible assumption | ((with_reducible refine At.fr0 (by with_reducible assumption) ?_); k_upd) | ((with_reducible refine At.fr1 (by with_reducible assumption) ?_ ?_); (focus k_upd); top_raise) | ((with_reducible refine At.fr2 (by with_reducible assumption) ?_ ?_ ?_); (focus k_upd); (focus top_raise); top_raise))
local macro_rules | `(tactic| k_updF) => `(tactic| first | with_reducible assumption | with_reducible exact At.lt (by with_reducible assumption) | ((with_reducible refine Fr.lt (by with_reducible assumption) ?_); k_updF))
local macro_rules | `(tactic| top_raise) => `(tactic| first | with_reducible assumption | ((with_reducible refine Nw.ne (by with_reducible assumption) ?_); k_updF) | ((with_reducible refine Nw.ne' (by with_reducible assumption) ?_); k_updF) | omega)
local macro_rules | `(tactic| kbo_bools) => `(tactic| simp -dsimp)
local macro_rules | `(tactic| kat_tups) => `(tactic| first | rfl | with_reducible assumption | exact atI_nat rfl)
local macro_rules | `(tactic| tb_rel) => `(tactic| first
   | ((with_reducible refine gd_i ?_ ?_); (focus first | exact ⟨_, lAt_at (by k_upd)⟩ | top_raise0))
   | ((with_reducible apply atK_i); (focus kat_tups))
   | ((with_reducible apply r_ix); (focus k_upd))
   | ((with_reducible apply r_len); (focus k_upd))
   | ((with_reducible apply r_inL); (focus k_upd); (focus (simp; done)))
   | ((with_reducible apply r_chk); (focus k_upd))
   | ((with_reducible refine r_new ?_); intro _ _ _ _ _)
   | ((with_reducible apply r_app); (focus k_upd); (focus top_raise0); intro _ hA _; (try simp only [List.nil_append, List.cons_append] at hA))
   | ((with_reducible apply r_putT); (focus k_upd); (focus top_caught); (focus top_caught); intro _ hA _; (try simp only [Int.reduceToNat, List.set_cons_zero, List.set_cons_succ] at hA))
   | (with_reducible refine ws_for ?_)
   | (with_reducible refine wfor_t1 ?_)
   | (with_reducible refine wfor_t0 ?_)
   | ((with_reducible refine r_eqO ?_ ?_ ?_); (focus (simp [okD, okL]; done)); (focus (simp [dpD, dpL]; done)))
   | ((with_reducible refine r_neO ?_ ?_ ?_); (focus (simp [okD, okL]; done)); (focus (simp [dpD, dpL]; done)))
   | ((with_reducible refine sel_t ?_ ?_); (focus top_raise0))
   | ((with_reducible refine sel_f ?_ ?_); (focus top_raise0)))
local macro_rules | `(tactic| tb_start) => `(tactic| repeat (first | kbo_bools | tb_rel))
local macro_rules | `(tactic| top_caught) => `(tactic| first | omega | (simp; done) | (simp; omega) | (simp; constructor <;> omega))
local macro_rules | `(tactic| top_name) => `(tactic| first | with_reducible assumption | exact Fr.refl | ((with_reducible refine Fr.trans ?_ (by with_reducible assumption)); top_name) | ((with_reducible refine Fr.trans ?_ (Fr.up (by with_reducible assumption))); top_name) | ((with_reducible refine Fr.new ?_ ?_ (by with_reducible assumption)); (focus top_name); allgen_close_more) | ((with_reducible refine Fr.new2 ?_ ?_ (by with_reducible assumption) (by simp)); (focus top_name); allgen_close_more))
local macro_rules | `(tactic| allgen_close_more) => `(tactic| first | with_reducible assumption | ((with_reducible refine Fr.nw (by with_reducible assumption) ?_); allgen_close_more))
local macro_rules | `(tactic| allgen_close2_more) => `(tactic| simp only [fill_some, fill_none, fill_nil, Nat.reduceAdd])
def Deal3 (s : Sto) (j : Nat) : Prop := ∃ a b c : Int, 0 ≤ a ∧ a ≤ 1 ∧ At s j (.lst [.int a, .int b, .int c])
theorem Deal3.lt {s : Sto} {j : Nat} (h : Deal3 s j) : j < s.length := by
  obtain ⟨a, b, c, _, _, h⟩ := h
  exact h.lt
theorem Deal3.fr {js : List Nat} {s t : Sto} {j : Nat} (f : Fr js s t) (h : Deal3 s j) (n : j ∉ js) : Deal3 t j := by
  obtain ⟨a, b, c, h0, h1, h⟩ := h
  exact ⟨a, b, c, h0, h1, h.fr f n⟩
theorem Deal3.fr0 {s t : Sto} {j : Nat} (f : Fr [] s t) (h : Deal3 s j) : Deal3 t j := h.fr f (by simp)
section
variable {s : Sto} {Q : D → Sto → Prop} {E : XP} {u : Lk2 Q E}
theorem w_draw3 {j : Nat} {m : Int} (h : Deal3 s j) (h0 : 0 < m) (h1 : m < 2 ^ 128) (k : ∀ r t, 0 ≤ r → r < m → Deal3 t j → Fr [j] s t → Q (.int r) t) : wp (g_law_draw [.box j, .int m]) s Q E u := by
  obtain ⟨a, b, c, a0, a1, h⟩ := h
  refine u_law_draw ?_
  unfold c_law_draw
  have fin : ∀ t, Fr [j] s t → (∃ b c : Int, At t j (.lst [.int a, .int b, .int c])) → ∀ x, Q (.int (x % m)) t := fun t f ⟨b, c, d⟩ x => k _ _ (mod_lo h0) (mod_hi h0) ⟨a, b, c, a0, a1, d⟩ f
  clear k
  tb_start
  refine sel_i (fun q => ?_) (fun q => ?_)
  · tb_start
    refine sel_i (fun q2 => ?_) (fun q2 => ?_)
    · tb_start
      refine fin _ (by top_name) ⟨_, _, by k_upd⟩ _
    · tb_start
      refine fin _ (by top_name) ⟨_, _, by k_upd⟩ _
  · tb_start
    refine fin _ (by top_name) ⟨_, _, by k_upd⟩ _
theorem atI_ints3 {ns : List Int} {i : Int} (h0 : 0 ≤ i) (h1 : i < ns.length) : ∃ v, atI (ns.map D.int) i = some (.int v) := by
  obtain ⟨n, rfl⟩ := Int.eq_ofNat_of_zero_le h0
  have hn : n < ns.length := by omega
  exact ⟨ns[n], atI_nat (by simp [hn])⟩
theorem w_deal3 {ns : List Int} {k : Int} (h0 : 0 ≤ k) (h1 : k < 1000) (hk : ∀ t j, Deal3 t j → Nw s j → Fr [] s t → Q (.box j) t) : wp (g_law_deal [.lst (ns.map D.int), .int k]) s Q E u := by
  refine u_law_deal ?_
  unfold c_law_deal
  have fin : ∀ t j (a b c : Int), At t j (.lst [.int a, .int b, .int c]) → 0 ≤ a ∧ a ≤ 1 → Nw s j → Fr [] s t → Q (.box j) t := fun t j a b c q ⟨q0, q1⟩ => hk t j ⟨a, b, c, q0, q1, q⟩
  clear hk
  have two : ∀ v : Int, 0 ≤ v % 2 ∧ v % 2 ≤ 1 := fun v => by omega
  tb_start
  by_cases hn : 0 < (ns.length : Int)
  · obtain ⟨v1, e1⟩ := atI_ints3 (ns := ns) (mod_lo (x := k) hn) (mod_hi (x := k) hn)
    obtain ⟨v2, e2⟩ := atI_ints3 (ns := ns) (i := 0) (by omega) (by omega)
    tb_start
    refine sel_i (fun h3 => ?_) (fun h3 => ?_)
    · have h4 : ¬ k < (ns.length : Int) := by omega
      tb_start
      exact fin _ _ _ _ _ (by k_upd) (by omega) (by allgen_close_more) (by top_name)
    · have h4 : k < (ns.length : Int) := by omega
      obtain ⟨v3, e3⟩ := atI_ints3 (ns := ns) h0 h4
      tb_start
      refine sel_i (fun h5 => ?_) (fun h5 => ?_)
      · tb_start
        exact fin _ _ _ _ _ (by k_upd) (two _) (by allgen_close_more) (by top_name)
      · tb_start
        exact fin _ _ _ _ _ (by k_upd) (two _) (by allgen_close_more) (by top_name)
  · have h3 : ¬ k < (ns.length : Int) := by omega
    tb_start
    exact fin _ _ _ _ _ (by k_upd) (by omega) (by allgen_close_more) (by top_name)
end
section
local macro_rules | `(tactic| top_args) => `(tactic| first | with_reducible assumption | ((with_reducible refine Deal3.fr0 (by with_reducible assumption) ?_); top_args) | fail)
local macro_rules | `(tactic| tb_rel) => `(tactic| ((with_reducible refine w_draw3 ?_ ?_ ?_ ?_); (focus top_args); (focus top_raise0); (focus top_raise0); intro _ _ _ _ _ _))
local macro_rules | `(tactic| k_updF) => `(tactic| first | with_reducible exact Deal3.lt (by with_reducible assumption) | fail)
variable {s : Sto} {Q : D → Sto → Prop} {E : XP} {u : Lk2 Q E}
/-- an instruction of a sort, by its numbers -/
def insD (x : String) (vs : List Int) : D := .tup (.str x :: vs.map D.int)
inductive InsOk : String → List Int → Prop
  | stop : InsOk "stop" []
  | put {a v : Int} (a0 : 0 ≤ a) (a1 : a < 8) (v0 : 0 ≤ v) (v1 : v < 4294967296) : InsOk "put" [a, v]
  | three {x : String} {a b c : Int} (hx : x = "add" ∨ x = "sub" ∨ x = "and" ∨ x = "or" ∨ x = "xor" ∨ x = "less" ∨ x = "left" ∨ x = "right") (a0 : 0 ≤ a) (a1 : a < 8) (b0 : 0 ≤ b) (b1 : b < 8) (c0 : 0 ≤ c) (c1 : c < 8) : InsOk x [a, b, c]
  | more {x : String} {a b n : Int} (hx : x = "more" ∨ x = "load" ∨ x = "store") (a0 : 0 ≤ a) (a1 : a < 8) (b0 : 0 ≤ b) (b1 : b < 8) (n0 : -131072 ≤ n) (n1 : n < 131072) : InsOk x [a, b, n]
  | place {x : String} {n : Int} (hx : x = "jump" ∨ x = "gate") (n0 : 0 ≤ n) (n1 : n < 262144) : InsOk x [n]
  | jumpif {a n : Int} (a0 : 0 ≤ a) (a1 : a < 8) (n0 : 0 ≤ n) (n1 : n < 262144) : InsOk "jumpif" [a, n]
  | through {b : Int} (b0 : 0 ≤ b) (b1 : b < 8) : InsOk "through" [b]
  | two {x : String} {a b : Int} (hx : x = "fit" ∨ x = "aim") (a0 : 0 ≤ a) (a1 : a < 8) (b0 : 0 ≤ b) (b1 : b < 8) : InsOk x [a, b]
end


set_option Elab.async false
set_option linter.all false
set_option maxRecDepth 100000
set_option maxHeartbeats 4000000
/-! k12: an instruction's words -/
open PySem L2 G
local macro_rules | `(tactic| top_args) => `(tactic| first | with_reducible assumption | ((with_reducible refine Deal3.fr0 (by with_reducible assumption) ?_); top_args) | fail)
local macro_rules | `(tactic| tb_rel) => `(tactic| ((with_reducible refine w_draw3 ?_ ?_ ?_ ?_); (focus top_args); (focus top_raise0); (focus top_raise0); intro _ _ _ _ _ _))
local macro_rules | `(tactic| k_updF) => `(tactic| first | with_reducible exact Deal3.lt (by with_reducible assumption) | fail)
def kod (x : String) : Int := if x = "stop" then 0 else if x = "put" then 1 else if x = "add" then 2 else if x = "sub" then 3 else if x = "and" then 4 else if x = "or" then 5 else if x = "xor" then 6 else if x = "less" then 7
  else if x = "left" then 8 else if x = "right" then 9 else if x = "more" then 10 else if x = "load" then 11 else if x = "store" then 12 else if x = "jump" then 13 else if x = "jumpif" then 14 else if x = "through" then 15 else if x = "fit" then 16
  else if x = "aim" then 17 else 18
def wds (x : String) (vs : List Int) : List Int := match vs with
  | [] => [0]
  | [p] => if x = "through" then [kod x * 134217728 + p * 2097152] else [kod x * 134217728 + p]
  | [p, q] => if x = "put" then [134217728 + p * 16777216, q] else if x = "jumpif" then [kod x * 134217728 + p * 16777216 + q] else [kod x * 134217728 + p * 16777216 + q * 2097152]
  | [p, q, r] => if x = "more" ∨ x = "load" ∨ x = "store" then [kod x * 134217728 + p * 16777216 + q * 2097152 + r % 262144] else [kod x * 134217728 + p * 16777216 + q * 2097152 + r * 262144]
  | _ => []
section
variable {s : Sto} {Q : D → Sto → Prop} {E : XP} {u : Lk2 Q E}
end


set_option Elab.async false
set_option linter.all false
set_option maxRecDepth 100000
set_option maxHeartbeats 4000000
/-! k12: an instruction's words by the law -/
open PySem L2 G
/-- a loop over known parts, where what is walked stays as it is -/
def wforG (p : Sto → Prop) (tg : Tg) (b : CS) (N : En → Sto → Prop) (Rt : D → Sto → Prop) (E : XP) : List D → En → Sto → Prop
  | [], e, s => N e s
  | x :: r, e, s => withT tg x e fun e' => ws b e' s (fun e2 u => gd (p u) (wforG p tg b N Rt E r e2 u)) Rt N (fun e2 u => gd (p u) (wforG p tg b N Rt E r e2 u)) E
section
variable {p : Sto → Prop} {tg : Tg} {b : CS} {N : En → Sto → Prop} {Rt : D → Sto → Prop} {E : XP} {e : En} {s : Sto}
@[simp ↓] theorem wforG_nil : wforG p tg b N Rt E [] e s = N e s := propext Iff.rfl
@[simp ↓] theorem wforG_cons {x : D} {r : List D} : wforG p tg b N Rt E (x :: r) e s = withT tg x e fun e' => ws b e' s (fun e2 u => gd (p u) (wforG p tg b N Rt E r e2 u)) Rt N (fun e2 u => gd (p u) (wforG p tg b N Rt E r e2 u)) E := propext Iff.rfl
end
section
variable {s : Sto} {Q : D → Sto → Prop} {E : XP} {u : Lk2 Q E}
end


set_option Elab.async false
set_option linter.all false
set_option maxRecDepth 100000
set_option maxHeartbeats 4000000
/-! k12: alike, the instruction at a place -/
open PySem L2 G
section
variable {s : Sto} {Q : D → Sto → Prop} {E : XP} {u : Lk2 Q E}
/-- a comprehension over known parts -/
def wlcK (tg : Tg) (t : CT) (c : CE) (e : En) (Q : List D → Sto → Prop) : List D → List D → Sto → Prop
  | [], ys, s => Q ys s
  | x :: r, ys, s => withT tg x e fun e' => wp (t e') s (fun b u => sel b (wp (c e') u (fun y v => wlcK tg t c e Q r (ys ++ [y]) v) NX) (wlcK tg t c e Q r ys u)) NX
@[simp ↓] theorem wlcK_nil {tg : Tg} {t : CT} {c : CE} {e : En} {Q : List D → Sto → Prop} {ys : List D} : wlcK tg t c e Q [] ys s = Q ys s := propext Iff.rfl
@[simp ↓] theorem wlcK_cons {tg : Tg} {t : CT} {c : CE} {e : En} {Q : List D → Sto → Prop} {ys r : List D} {x : D} : wlcK tg t c e Q (x :: r) ys s = withT tg x e fun e' => wp (t e') s (fun b u => sel b (wp (c e') u (fun y v => wlcK tg t c e Q r (ys ++ [y]) v) NX) (wlcK tg t c e Q r ys u)) NX := propext Iff.rfl
end


set_option Elab.async false
set_option linter.all false
set_option maxRecDepth 100000
set_option maxHeartbeats 4000000
/-! the instruction at any place of any words -/
open PySem L2 G
/-- the first word -/
def wds1 (x : String) (vs : List Int) : Int := (wds x vs).headD 0
/-- what a word's fields say, by the sort's number -/
def rdV (k a b c n sn : Int) : String × List Int :=
  if k = 0 then ("stop", []) else if k = 2 then ("add", [a, b, c]) else if k = 3 then ("sub", [a, b, c]) else if k = 4 then ("and", [a, b, c]) else if k = 5 then ("or", [a, b, c])
  else if k = 6 then ("xor", [a, b, c]) else if k = 7 then ("less", [a, b, c]) else if k = 8 then ("left", [a, b, c]) else if k = 9 then ("right", [a, b, c]) else if k = 10 then ("more", [a, b, sn])
  else if k = 11 then ("load", [a, b, sn]) else if k = 12 then ("store", [a, b, sn]) else if k = 13 then ("jump", [n]) else if k = 14 then ("jumpif", [a, n]) else if k = 15 then ("through", [b])
  else if k = 16 then ("fit", [a, b]) else if k = 17 then ("aim", [a, b]) else ("gate", [n])
abbrev sgn (n : Int) : Int := if 131072 ≤ n then n - 262144 else n
/-- the instruction that a word tells, with what stands behind it -/
def dec (w : Int) (nx : Option Int) : Option (String × List Int) :=
  if 18 < w / 134217728 then none else if w / 134217728 = 1 then (match nx with
    | none => none
    | some v => if wds1 "put" [w / 16777216 % 8, v] = w then some ("put", [w / 16777216 % 8, v]) else none)
  else
    let xv := rdV (w / 134217728) (w / 16777216 % 8) (w / 2097152 % 8) (w / 262144 % 8) (w % 262144) (sgn (w % 262144))
    if wds1 xv.1 xv.2 = w then some xv else none
def decD : Option (String × List Int) → D
  | none => .non
  | some p => insD p.1 p.2
def insAt (code : List Int) (p : Int) : Option (String × List Int) := if 0 ≤ p ∧ p < code.length then dec (code.getD p.toNat 0) code[p.toNat + 1]? else none
def Vals32 (code : List Int) : Prop := ∀ v ∈ code, 0 ≤ v ∧ v < 4294967296
section
variable {s : Sto} {Q : D → Sto → Prop} {E : XP} {u : Lk2 Q E}
end


set_option Elab.async false
set_option linter.all false
set_option maxRecDepth 100000
set_option maxHeartbeats 4000000
/-! the machine laws' own look at words -/
open PySem L2 G
local macro_rules | `(tactic| tb_rel) => `(tactic| first
   | ((with_reducible apply r_fld); (focus k_upd))
   | ((with_reducible apply r_chkO); (focus k_upd); (focus (simp; done)))
   | ((with_reducible apply r_chkD); (focus k_upd))
   | ((with_reducible apply r_dict); (focus k_upd))
   | ((with_reducible apply r_tupleB); (focus k_upd))
   | ((with_reducible apply r_listB); (focus k_upd))
   | ((with_reducible apply r_ix2L); (focus k_upd))
   | ((with_reducible apply onIt_i); (focus k_upd)))
abbrev sortL : List D := [.str "stop", .str "put", .str "add", .str "sub", .str "and", .str "or", .str "xor", .str "less", .str "left", .str "right", .str "more", .str "load", .str "store", .str "jump", .str "jumpif", .str "through", .str "fit", .str "aim", .str "gate"]
section
variable {s : Sto} {Q : D → Sto → Prop} {E : XP} {u : Lk2 Q E}
end


set_option Elab.async false
set_option linter.all false
set_option maxRecDepth 100000
set_option maxHeartbeats 4000000
/-! what instructions make of values (no program in sight) -/
open PySem L2 G
/-- of two values bit by bit -/
def andI (v w : Int) : Int := ((v.toNat &&& w.toNat : Nat) : Int)
def orI (v w : Int) : Int := ((v.toNat ||| w.toNat : Nat) : Int)
def xorI (v w : Int) : Int := ((v.toNat ^^^ w.toNat : Nat) : Int)
section
variable {v w : Int} (hv : 0 ≤ v) (hw : 0 ≤ w)
include hv hw
omit hv hw
include hv hw
omit hv hw
theorem p2_nat {z : Int} : p2 z = ((2 ^ z.toNat : Nat) : Int) := by unfold p2; rw [pow_nat]
include hv hw
end
def bitI (sort : String) (v w : Int) : Int := if sort = "and" then andI v w else if sort = "or" then orI v w else xorI v w
def shI (x : String) (v w : Int) : Int := if x = "less" then (if v < w then 1 else 0) else if x = "left" then (v * p2 (w % 32)) % 4294967296 else v / p2 (w % 32)
def isSh (x : String) : Prop := x = "less" ∨ x = "left" ∨ x = "right"
structure PlanOk (k b m s g : Int) : Prop where
  k0 : 0 ≤ k
  k1 : k ≤ 20
  b0 : 0 ≤ b
  bm : b % p2 k = 0
  b1 : b + p2 k ≤ 4294967296
  m0 : 0 ≤ m
  s0 : 0 ≤ s
  ms : m + s ≤ 7
  g0 : 0 ≤ g
  g1 : g ≤ 16
abbrev planD (k b m s g : Int) : D := .tup [.int k, .int b, .int m, .int s, .int g]
def fitI (k b v : Int) : Int := b + v % p2 k
def aimI (m s v : Int) : Int := v % p2 m * (8 * p2 s)
/-- what a word makes of two values -/
def valI (x : String) (v w : Int) : Int := if x = "add" then (v + w) % 4294967296 else if x = "sub" then (v - w) % 4294967296 else if x = "and" ∨ x = "or" ∨ x = "xor" then bitI x v w else shI x v w
def isW (x : String) : Prop := x = "add" ∨ x = "sub" ∨ (x = "and" ∨ x = "or" ∨ x = "xor") ∨ isSh x
/-- a mask of the last bits is the rest -/
theorem mask_of {v z : Int} (z0 : 0 ≤ z) : Builtin.bitAnd v (p2 z - 1) = v % p2 z := by
  by_cases h : 0 ≤ v
  · have hp := p2_pos (z := z)
    have e1 : (p2 z - 1).toNat = 2 ^ z.toNat - 1 := by
      have : 0 < 2 ^ z.toNat := Nat.pow_pos (by decide)
      rw [p2_nat]
      omega
    unfold Builtin.bitAnd
    rw [decide_eq_true h, decide_eq_true (by omega : 0 ≤ p2 z - 1)]
    simp only [e1, Nat.and_two_pow_sub_one_eq_mod]
    rw [Int.natCast_emod, ← p2_nat, Int.toNat_of_nonneg h]
  · have hp := p2_pos (z := z)
    obtain ⟨n, rfl⟩ : ∃ n : Nat, v = -((n : Int) + 1) := ⟨(-v - 1).toNat, by omega⟩
    have e1 : p2 z - 1 = ((2 ^ z.toNat - 1 : Nat) : Int) := by
      have : 0 < 2 ^ z.toNat := Nat.pow_pos (by decide)
      rw [p2_nat]
      omega
    have e2 : Builtin.bitAnd (-((n : Int) + 1)) (p2 z - 1) = (p2 z - 1) - (((p2 z - 1).toNat &&& n : Nat) : Int) := by
      unfold Builtin.bitAnd
      rw [decide_eq_false h, decide_eq_true (by omega : 0 ≤ p2 z - 1)]
      have : (Builtin.bitNot (-((n : Int) + 1))).toNat = n := by unfold Builtin.bitNot; omega
      simp only [this]
    rw [e2]
    have e3 : ((p2 z - 1).toNat &&& n) = n % 2 ^ z.toNat := by
      rw [e1, Int.toNat_natCast, Nat.and_comm, Nat.and_two_pow_sub_one_eq_mod]
    rw [e3, Int.natCast_emod]
    have e4 : ((2 ^ z.toNat : Nat) : Int) = p2 z := p2_nat.symm
    rw [e4]
    have a := mod_lo (x := (n : Int)) hp
    have b := mod_hi (x := (n : Int)) hp
    have d := Int.emod_add_mul_ediv (n : Int) (p2 z)
    have e5 : -((n : Int) + 1) = (p2 z - 1 - (n : Int) % p2 z) + p2 z * (-((n : Int) / p2 z) - 1) := by
      rw [Int.mul_sub, Int.mul_neg, Int.mul_one]
      omega
    rw [e5, Int.add_mul_emod_self_left, Int.emod_eq_of_lt (a := p2 z - 1 - (n : Int) % p2 z) (by omega) (by omega)]
@[simp] theorem mask32 {v : Int} : Builtin.bitAnd v 4294967295 = v % 4294967296 := mask_of (z := 32) (by decide)
@[simp] theorem mask31 {v : Int} : Builtin.bitAnd v 31 = v % 32 := mask_of (z := 5) (by decide)


set_option Elab.async false
set_option linter.all false
set_option maxRecDepth 100000
set_option maxHeartbeats 4000000
/-! memories, and what a machine does, plainly -/
open PySem L2 G
abbrev Mem := List (Int × Int)
def kI (k : Int) : Key := .inl k
def mD (M : Mem) : List (Key × D) := M.map fun p => (kI p.1, D.int p.2)
def getM (M : Mem) (k : Int) : Int := ((M.find? fun p => decide (p.1 = k)).map (·.2)).getD 0
def putM (M : Mem) (k v : Int) : Mem := if (M.any fun p => decide (p.1 = k)) = true then M.map (fun p => if p.1 = k then (p.1, v) else p) else M ++ [(k, v)]
def mergeM (M N : Mem) : Mem := N.foldl (fun a p => putM a p.1 p.2) M
/-- a value -/
def V32 (v : Int) : Prop := 0 ≤ v ∧ v < 4294967296
def MemOk (M : Mem) : Prop := ∀ p ∈ M, V32 p.2
theorem MemOk.nil : MemOk [] := fun _ h => by cases h
theorem MemOk.put {M : Mem} (h : MemOk M) {k v : Int} (hv : V32 v) : MemOk (putM M k v) := by
  unfold putM
  split
  · intro p hp
    obtain ⟨q, hq, rfl⟩ := List.mem_map.mp hp
    split
    · exact hv
    · exact h q hq
  · intro p hp
    rcases List.mem_append.mp hp with q | q
    · exact h p q
    · rw [List.mem_singleton.mp q]; exact hv
/-! ### the machine -/
structure St where
  place : Int
  bx : List Int
  mem : Mem
  rows : List (Int × List Int × Mem)
abbrev Repl := List Int × Mem
def geti (l : List Int) (i : Int) : Int := l.getD i.toNat 0
abbrev inR (k b p : Int) : Prop := b ≤ p ∧ p < b + p2 k
structure Plan where
  k : Int
  b : Int
  m : Int
  s : Int
  g : Int
abbrev Plan.d (p : Plan) : D := planD p.k p.b p.m p.s p.g
def Plan.ok (p : Plan) : Prop := PlanOk p.k p.b p.m p.s p.g
abbrev Ins := String × List Int
/-- what an instruction does, but for the place -/
def eff (P : Plan) (R : List Repl) (x : String) (vs : List Int) (s : St) : Option Ins × St := match vs with
  | [] => (some ("stopped", []), s)
  | [n] => if x = "jump" ∨ x = "through" then (none, s)
    else if P.g ≤ n then (some ("lost", []), s)
    else if R.length < s.rows.length + 1 then (some ("asks", [n]), { s with rows := s.rows ++ [(n, s.bx, s.mem)] })
    else (none, { s with bx := (R.getD s.rows.length ([], [])).1 ++ [geti s.bx 7], mem := mergeM s.mem (R.getD s.rows.length ([], [])).2, rows := s.rows ++ [(n, s.bx, s.mem)] })
  | [p, q] => if x = "put" then (none, { s with bx := s.bx.set p.toNat q })
    else if x = "jumpif" then (none, s)
    else (none, { s with bx := s.bx.set p.toNat (if x = "fit" then fitI P.k P.b (geti s.bx q) else aimI P.m P.s (geti s.bx q)) })
  | [p, q, r] => if x = "load" ∨ x = "store" then
      (if inR P.k P.b ((geti s.bx q + r) % 4294967296) then (if x = "load" then (none, { s with bx := s.bx.set p.toNat (getM s.mem ((geti s.bx q + r) % 4294967296)) })
        else (none, { s with mem := putM s.mem ((geti s.bx q + r) % 4294967296) (geti s.bx p) }))
      else (some ("beyond", [(geti s.bx q + r) % 4294967296]), s))
    else (none, { s with bx := s.bx.set p.toNat (if x = "more" then (geti s.bx q + r) % 4294967296 else valI x (geti s.bx q) (geti s.bx r)) })
  | _ => (none, s)
/-- the place behind -/
def nxt (x : String) (vs : List Int) (s : St) : Int := match vs with
  | [n] => if x = "jump" then n else if x = "through" then geti s.bx n else s.place + 1
  | [p, q] => if x = "put" then s.place + 2 else if x = "jumpif" ∧ geti s.bx p ≠ 0 then q else s.place + 1
  | _ => s.place + 1
def doIns (P : Plan) (R : List Repl) (x : String) (vs : List Int) (s : St) : Option Ins × St :=
  ((eff P R x vs s).1, if (eff P R x vs s).1 = none then { (eff P R x vs s).2 with place := nxt x vs (eff P R x vs s).2 } else (eff P R x vs s).2)
structure StOk (s : St) : Prop where
  bl : s.bx.length = 8
  bv : ∀ v ∈ s.bx, V32 v
  mv : MemOk s.mem
def ReplOk (r : Repl) : Prop := r.1.length = 7 ∧ (∀ v ∈ r.1, V32 v) ∧ MemOk r.2
theorem StOk.at {s : St} (h : StOk s) {i : Int} (i0 : 0 ≤ i) (i1 : i < 8) : atI (s.bx.map D.int) i = some (.int (geti s.bx i)) ∧ V32 (geti s.bx i) := by
  obtain ⟨n, rfl⟩ := Int.eq_ofNat_of_zero_le i0
  have hn : n < s.bx.length := by rw [h.bl]; omega
  have e : s.bx[n]? = some (geti s.bx n) := by
    unfold geti
    rw [List.getD_eq_getElem?_getD, Int.toNat_natCast, List.getElem?_eq_getElem hn]
    rfl
  exact ⟨atI_nat (by rw [List.getElem?_map, e]; rfl), h.bv _ (List.mem_of_getElem? e)⟩
theorem StOk.set {s : St} (h : StOk s) {i : Nat} {v : Int} (hv : V32 v) : StOk { s with bx := s.bx.set i v } := ⟨by simp [h.bl], fun w hw => by
  rcases List.mem_or_eq_of_mem_set hw with q | q
  · exact h.bv w q
  · rw [q]; exact hv, h.mv⟩


set_option Elab.async false
set_option linter.all false
set_option maxRecDepth 100000
set_option maxHeartbeats 4000000
/-! of use in many laws: == of lists of ints, slices -/
open PySem L2 G
theorem okL_ints : ∀ is : List Int, okL (is.map D.int) = true
  | [] => rfl
  | i :: is => by simp only [List.map_cons, okL, okL_ints is, okD, Bool.and_self]
theorem dpL_ints : ∀ is : List Int, dpL (is.map D.int) ≤ 1
  | [] => by simp [dpL]
  | i :: is => by
    have := dpL_ints is
    simp only [List.map_cons, dpL, dpD]
    omega
/-- == of two lists of the same data -/
theorem eq_lists {s : Sto} {i j : Nat} {xs : List D} (hi : At s i (.lst xs)) (hj : At s j (.lst xs)) (h : okL xs = true) (d : dpL xs < 8) : eqX s (.box i) (.box j) = some true := by
  obtain ⟨ds, h1, h2, h3⟩ := datL_ok 8 xs h d
  have e : ∀ k, At s k (.lst xs) → datD s 9 (.box k) = some (.list ds) := fun k hk => by
    show (match lAt s k with | some ds => (datL (datD s 8) ds).map PyData.list | none => none) = _
    rw [lAt_at hk]
    simp only [h1]
    rfl
  exact eqX_data (e i hi) (e j hj) (by simpa [PyData.canLay0] using h2) (by simp [PyData.depth]; omega)
theorem eq_boxes {s : Sto} {i j : Nat} {is : List Int} (hi : At s i (.lst (is.map D.int))) (hj : At s j (.lst (is.map D.int))) : eqX s (.box i) (.box j) = some true := eq_lists hi hj (okL_ints is) (by have := dpL_ints is; omega)
theorem sIx_nn {n d : Nat} {i : Int} (h : 0 ≤ i) : HT.sIx n d (some i) = min i.toNat n := by
  unfold HT.sIx
  dsimp only
  split
  · omega
  · rfl
theorem sIx_none {n d : Nat} : HT.sIx n d none = d := rfl
theorem cut_to {xs : List D} {i : Int} (h : 0 ≤ i) : cutD xs none (some i) = xs.take i.toNat := by
  unfold cutD
  rw [sIx_none, sIx_nn h]
  simp only [List.drop_zero, Nat.sub_zero]
  rw [← List.take_take, List.take_of_length_le (Nat.le_refl xs.length)]
theorem cut_from {xs : List D} {i : Int} (h : 0 ≤ i) : cutD xs (some i) none = xs.drop i.toNat := by
  unfold cutD
  rw [sIx_none, sIx_nn h]
  by_cases c : i.toNat ≤ xs.length
  · rw [Nat.min_eq_left c, List.take_of_length_le (by simp)]
  · rw [Nat.min_eq_right (by omega), List.drop_of_length_le (Nat.le_refl _), List.drop_of_length_le (by omega)]; simp


set_option Elab.async false
set_option linter.all false
set_option maxRecDepth 100000
set_option maxHeartbeats 4000000
/-! the machine's small defs -/
open PySem L2 G
def mrun (P : Plan) (code : List Int) (R : List Repl) (most : Int) : Nat → St → Int → Ins × St × Int
  | 0, s, n => (("", []), s, n)
  | f + 1, s, n => match insAt code s.place with
    | none => (("lost", []), s, n)
    | some i => if n = most then (("spent", []), s, n) else match doIns P R i.1 i.2 s with
      | (some e, s') => (e, s', n + 1)
      | (none, s') => mrun P code R most f s' (n + 1)
section
variable {s : Sto} {Q : D → Sto → Prop} {E : XP} {u : Lk2 Q E}
end


set_option Elab.async false
set_option linter.all false
set_option maxRecDepth 100000
set_option maxHeartbeats 4000000
/-! the machine's object -/
open PySem L2 G
/-- replies: a list of (boxes, writes); the dicts stand of old -/
def RepR (s0 s : Sto) (rds : List D) (R : List Repl) : Prop := rds.length = R.length ∧ ∀ (i : Nat) r, R[i]? = some r → ∃ j, rds[i]? = some (.tup [.tup (r.1.map D.int), .box j]) ∧ At s j (.dk (mD r.2)) ∧ j < s0.length
/-- rows kept: each with a dict of its own, new since s0, none of it jd, no two the same -/
def RowsR (s0 s : Sto) (jd : Nat) (rds : List D) (rows : List (Int × List Int × Mem)) : Prop := rds.length = rows.length ∧ ∀ (i : Nat) r, rows[i]? = some r → ∃ j, rds[i]? = some (.tup [.int r.1, .tup (r.2.1.map D.int), .box j]) ∧ At s j (.dk (mD r.2.2)) ∧ Nw s0 j ∧ (j ≠ jd ∧ ∀ (i' : Nat) (x y : D), i' ≠ i → rds[i']? ≠ some (.tup [x, y, .box j]))
theorem RepR.fr {s0 s t : Sto} {ks : List Nat} {rds : List D} {R : List Repl} (h : RepR s0 s rds R) (f : Fr ks s t) (n : ∀ k ∈ ks, Nw s0 k) : RepR s0 t rds R := ⟨h.1, fun i r e => by
  obtain ⟨j, h1, h2, h3⟩ := h.2 i r e
  exact ⟨j, h1, h2.fr f fun q => by have := n j q; unfold Nw at this; omega, h3⟩⟩
theorem RowsR.fr {s0 s t : Sto} {ks : List Nat} {jd : Nat} {rds : List D} {rows : List (Int × List Int × Mem)} (h : RowsR s0 s jd rds rows) (f : Fr ks s t) (n : ∀ k ∈ ks, k = jd ∨ ∀ kvs, ¬ At s k (.dk kvs)) : RowsR s0 t jd rds rows := ⟨h.1, fun i r e => by
  obtain ⟨j, h1, h2, h3, h4⟩ := h.2 i r e
  exact ⟨j, h1, h2.fr f fun q => by
    rcases n j q with z | z
    · exact h4.1 z
    · exact z _ h2, h3, h4⟩⟩
abbrev mFs (P : Plan) (S : St) (jc jb jd jr jw : Nat) : List (Str × D) := [("plan", P.d), ("code", .box jc), ("place", .int S.place), ("boxes", .box jb), ("memory", .box jd), ("replies", .box jr), ("rows", .box jw)]
structure MAt (s0 s : Sto) (jm jc jb jd jr jw : Nat) (P : Plan) (code : List Int) (R : List Repl) (S : St) : Prop where
  ob : At s jm (.ins "Machine" (mFs P S jc jb jd jr jw))
  code : At s jc (.lst (code.map D.int))
  bx : At s jb (.lst (S.bx.map D.int))
  mem : At s jd (.dk (mD S.mem))
  repl : ∃ rds, At s jr (.lst rds) ∧ RepR s0 s rds R
  rows : ∃ rds, At s jw (.lst rds) ∧ RowsR s0 s jd rds S.rows
  nm : Nw s0 jm
  nc : Nw s0 jc
  nb : Nw s0 jb
  nd : Nw s0 jd
  nr : Nw s0 jr
  nw : Nw s0 jw
  cb : jc ≠ jb
  cw : jc ≠ jw
  br : jb ≠ jr
  bw : jb ≠ jw
  rw' : jr ≠ jw
  fr : Fr [] s0 s
section
variable {s0 s t : Sto} {jm jc jb jd jr jw : Nat} {P : Plan} {code : List Int} {R : List Repl} {S : St}
/-- new things alone -/
theorem MAt.fr0 (h : MAt s0 s jm jc jb jd jr jw P code R S) (f : Fr [] s t) : MAt s0 t jm jc jb jd jr jw P code R S := by
  obtain ⟨h1, h2, h3, h4, ⟨rr, h5, h5'⟩, ⟨rw_, h6, h6'⟩, n1, n2, n3, n4, n5, n6, d1, d2, d3, d4, d5, fr⟩ := h
  exact ⟨h1.fr0 f, h2.fr0 f, h3.fr0 f, h4.fr0 f, ⟨rr, h5.fr0 f, h5'.fr f (by simp)⟩, ⟨rw_, h6.fr0 f, h6'.fr f (by simp)⟩, n1, n2, n3, n4, n5, n6, d1, d2, d3, d4, d5, fr.trans f⟩
end
section
variable {s0 s : Sto} {jm jc jb jd jr jw : Nat} {P : Plan} {code : List Int} {R : List Repl} {S : St} {Q : D → Sto → Prop} {E : XP} {u : Lk2 Q E}
theorem big_eq : big = 1000000 := rfl
/-- what the machine's parts are bounded by -/
structure Lim (R : List Repl) (S : St) : Prop where
  m : S.mem.length < 400000
  r : S.rows.length < 400000
  rep : ∀ r ∈ R, ReplOk r ∧ r.2.length ≤ 400000
end


set_option Elab.async false
set_option linter.all false
set_option maxRecDepth 100000
set_option maxHeartbeats 4000000
/-! the machine: an instruction done, a run -/
open PySem L2 G
section
variable {s0 s : Sto} {jm jc jb jd jr jw : Nat} {P : Plan} {code : List Int} {R : List Repl} {S : St} {Q : D → Sto → Prop} {E : XP} {u : Lk2 Q E}
abbrev cTail : CS := sSeq (sIf (tE (cUn dIsN (cV 3))) (sFld "Machine" "place" (cV 0) (cMth "Machine" "onward" g_Machine_onward (cV 0) (aCons (cV 1) (aNil)))) (sNil)) (sRet (cV 3))
end


set_option Elab.async false
set_option linter.all false
set_option maxRecDepth 100000
set_option maxHeartbeats 4000000
/-! the machine: a run -/
open PySem L2 G
section
local macro_rules | `(tactic| tb_rel) => `(tactic| ((with_reducible apply r_setF); (focus k_upd); (focus (simp; done)); intro _ hF _; (try simp at hF)))
@[simp] theorem isNon_ins {x : String} {vs : List Int} : isNon (insD x vs) = false := rfl
/-- what a run tells -/
def ResR (s0 t : Sto) (e : Ins) (S : St) (n : Int) (d : D) : Prop := ∃ jd jw rds, d = .tup [insD e.1 e.2, .tup [.int S.place, .tup (S.bx.map D.int), .box jd], .box jw, .int n] ∧ At t jd (.dk (mD S.mem)) ∧ At t jw (.lst rds) ∧ RowsR s0 t jd rds S.rows ∧ Nw s0 jd ∧ Nw s0 jw
section
variable {s : Sto} {P : Plan} {code : List Int} {R : List Repl} {S : St} {Q : D → Sto → Prop} {E : XP} {u : Lk2 Q E}
end
end


set_option Elab.async false
set_option linter.all false
set_option maxRecDepth 100000
set_option maxHeartbeats 4000000
/-! bit by bit, and moved step by step (no program in sight) -/
open PySem L2 G
def bit3 (x : String) (n : Int) : Int := if x = "and" then (if n = 2 then 1 else 0) else if x = "or" then (if 0 < n then 1 else 0) else (if n = 1 then 1 else 0)


set_option Elab.async false
set_option linter.all false
set_option maxRecDepth 100000
set_option maxHeartbeats 4000000
/-! the machine laws' own machine -/
open PySem L2 G
section
variable {s : Sto} {Q : D → Sto → Prop} {E : XP} {u : Lk2 Q E}
/-- what an instruction makes, where it makes something -/
def mkI (P : Plan) (x : String) (vs : List Int) (S : St) : Option Int := match vs with
  | [p, q] => if x = "put" then some q else if x = "jumpif" then none else some (if x = "fit" then fitI P.k P.b (geti S.bx q) else aimI P.m P.s (geti S.bx q))
  | [_, q, r] => if x = "load" ∨ x = "store" then none else some (if x = "more" then (geti S.bx q + r) % 4294967296 else valI x (geti S.bx q) (geti S.bx r))
  | _ => none
def optI : Option Int → D
  | none => .non
  | some v => .int v
end


set_option Elab.async false
set_option linter.all false
set_option maxRecDepth 100000
set_option maxHeartbeats 4000000
/-! the machine laws' own run -/
open PySem L2 G
/-- what stands of the law's own run: boxes, memory, rows; the code and the replies are of old -/
structure LAt (s0 s : Sto) (jb jd jw jc jr : Nat) (code : List Int) (R : List Repl) (S : St) : Prop where
  bx : At s jb (.lst (S.bx.map D.int))
  mem : At s jd (.dk (mD S.mem))
  rows : ∃ rds, At s jw (.lst rds) ∧ RowsR s0 s jd rds S.rows
  code : At s jc (.lst (code.map D.int))
  repl : ∃ rds, At s jr (.lst rds) ∧ RepR s0 s rds R
  nb : Nw s0 jb
  nd : Nw s0 jd
  nw : Nw s0 jw
  oc : jc < s0.length
  or' : jr < s0.length
  bw : jb ≠ jw
  fr : Fr [] s0 s
section
variable {s0 s t : Sto} {jb jd jw jc jr : Nat} {code : List Int} {R : List Repl} {S : St}
theorem LAt.fr0 (h : LAt s0 s jb jd jw jc jr code R S) (f : Fr [] s t) : LAt s0 t jb jd jw jc jr code R S := by
  obtain ⟨h1, h2, ⟨rw_, h3, h3'⟩, h4, ⟨rr, h5, h5'⟩, n1, n2, n3, o1, o2, d1, fr⟩ := h
  exact ⟨h1.fr0 f, h2.fr0 f, ⟨rw_, h3.fr0 f, h3'.fr f (by simp)⟩, h4.fr0 f, ⟨rr, h5.fr0 f, h5'.fr f (by simp)⟩, n1, n2, n3, o1, o2, d1, fr.trans f⟩
end
section
variable {s0 s : Sto} {jb jd jw jc jr : Nat} {P : Plan} {code : List Int} {R : List Repl} {S : St} {Q : D → Sto → Prop} {E : XP} {u : Lk2 Q E}
structure Lim2 (R : List Repl) (S : St) : Prop where
  m : S.mem.length < 400000
  r : S.rows.length < 400000
  rep : ∀ r ∈ R, ReplOk r ∧ r.2.length ≤ 400000 ∧ (r.2.map (·.1)).Nodup
noncomputable abbrev cMidA : CS := sIf (tE (cBin dEq (cBin dIx2 (cV 11) (cK (.int 0))) (cK (.str "stop")))) (sSet 7 (cTup (aCons (cK (.str "stopped")) (aNil)))) (sIf (tE (cBin dEq (cBin dIx2 (cV 11) (cK (.int 0))) (cK (.str "gate")))) (sSet 7 (cCall g_law_gate (aCons (cV 0) (aCons (cBin dIx2 (cV 11) (cK (.int 1))) (aCons (cV 9) (aCons (cV 10) (aCons (cV 5) (aCons (cV 3) (aNil))))))))) (sIf (tE (cBin (dIn false) (cBin dIx2 (cV 11) (cK (.int 0))) (cTup (aCons (cK (.str "load")) (aCons (cK (.str "store")) (aNil)))))) (sSeq (sSet 13 (cCall g_law_reach (aCons (cV 0) (aCons (cV 11) (aCons (cV 9) (aCons (cV 10) (aNil))))))) (sIf (tE (cUn dNotN (cV 13))) (sSet 7 (cTup (aCons (cK (.str "beyond")) (aCons (cV 13) (aNil))))) (sNil))) (sIf (tE (cUn dNotN (cV 12))) (sPut dPut2 (cV 9) (cBin dIx2 (cV 11) (cK (.int 1))) (cV 12)) (sNil))))
abbrev cMidT : CS := sIf (tE (cUn dIsN (cV 7))) (sSet 8 (cCall g_law_goes_1 (aCons (cV 11) (aCons (cV 8) (aCons (cV 9) (aNil)))))) (sNil)
abbrev lEnv (P : Plan) (jc jr jw jb jd : Nat) (e2 e4 : Option D) (n : Int) (e : D) (pl : Int) (i m : D) (e13 : Option D) : En := [some P.d, some (.box jc), e2, some (.box jr), e4, some (.box jw), some (.int n), some e, some (.int pl), some (.box jb), some (.box jd), some i, some m, e13]
end


set_option Elab.async false
set_option linter.all false
set_option maxRecDepth 100000
set_option maxHeartbeats 4000000
/-! the draws of the laws k31 to k64: a state is a list of the script, a count, and a number -/
open PySem L2 G
def DS (s : Sto) (j : Nat) : Prop := ∃ (ns : List Int) (k c : Int), 0 ≤ k ∧ At s j (.lst [.lst (ns.map D.int), .int k, .int c])
theorem DS.lt {s : Sto} {j : Nat} (h : DS s j) : j < s.length := by
  obtain ⟨ns, k, c, _, h⟩ := h
  exact h.lt
theorem DS.fr {js : List Nat} {s t : Sto} {j : Nat} (f : Fr js s t) (h : DS s j) (n : j ∉ js) : DS t j := by
  obtain ⟨ns, k, c, h0, h⟩ := h
  exact ⟨ns, k, c, h0, h.fr f n⟩
theorem DS.fr0 {s t : Sto} {j : Nat} (f : Fr [] s t) (h : DS s j) : DS t j := h.fr f (by simp)
theorem atI_ints4 {ns : List Int} {i : Int} (h0 : 0 ≤ i) (h1 : i < ns.length) : ∃ v, atI (ns.map D.int) i = some (.int v) := by
  obtain ⟨n, rfl⟩ := Int.eq_ofNat_of_zero_le h0
  have hn : n < ns.length := by omega
  exact ⟨ns[n], atI_nat (by simp [hn])⟩
section
section
local macro_rules | `(tactic| tb_rel) => `(tactic| ((with_reducible apply r_put2L); (focus k_upd); (focus top_caught); (focus top_caught); intro _ hA _; (try simp only [Int.reduceToNat, List.set_cons_zero, List.set_cons_succ] at hA)))
variable {s : Sto} {Q : D → Sto → Prop} {E : XP} {u : Lk2 Q E}
theorem w_draw4 {j : Nat} {m : Int} (h : DS s j) (h0 : 0 < m) (h1 : m < 2 ^ 128) (k : ∀ r t, 0 ≤ r → r < m → DS t j → Fr [j] s t → Q (.int r) t) : wp (g_law_draw_3 [.box j, .int m]) s Q E u := by
  obtain ⟨ns, c, a, c0, h⟩ := h
  refine u_law_draw_3 ?_
  unfold c_law_draw_3
  have fin : ∀ t a, Fr [j] s t → At t j (.lst [.lst (ns.map D.int), .int (c + 1), .int a]) → ∀ x, Q (.int (x % m)) t := fun t a f d x => k _ _ (mod_lo h0) (mod_hi h0) ⟨ns, c + 1, a, by omega, d⟩ f
  clear k
  have ct : cutD [D.lst (ns.map D.int), D.int c, D.int a] none (some 2) = [D.lst (ns.map D.int), D.int c] := by rw [cut_to (by decide)]; rfl
  tb_start
  refine r_slL h ?_
  rw [ct]
  tb_start
  by_cases hc : c / 30 < ns.length
  · obtain ⟨v, hv⟩ := atI_ints4 (ns := ns) (i := c / 30) (by omega) hc
    obtain ⟨w, hw⟩ := atI_ints4 (ns := ns) (i := c * 7 % ns.length) (Int.emod_nonneg _ (by omega)) (Int.emod_lt_of_pos _ (by omega))
    have hl : 0 < (ns.length : Int) := by omega
    tb_start
    refine sel_i (fun c1 => ?_) (fun c1 => ?_)
    · by_cases c2 : c % 30 = 0
      · have c3 : 0 < (if v < 0 then -v else v) := by omega
        tb_start
        exact fin _ _ (by top_name) (by k_upd) _
      · by_cases c3 : 0 < a
        · tb_start
          exact fin _ _ (by top_name) (by k_upd) _
        · tb_start
          exact fin _ _ (by top_name) (by k_upd) _
    · tb_start
      exact fin _ _ (by top_name) (by k_upd) _
  · by_cases hl : 0 < (ns.length : Int)
    · obtain ⟨w, hw⟩ := atI_ints4 (ns := ns) (i := c * 7 % ns.length) (Int.emod_nonneg _ (by omega)) (Int.emod_lt_of_pos _ (by omega))
      tb_start
      exact fin _ _ (by top_name) (by k_upd) _
    · tb_start
      exact fin _ _ (by top_name) (by k_upd) _
end
end


set_option Elab.async false
set_option linter.all false
set_option maxRecDepth 100000
set_option maxHeartbeats 4000000
/-! the draws of the laws k31 to k64: plans, values, boxes, memories, instructions, code -/
open PySem L2 G
section
local macro_rules | `(tactic| top_args) => `(tactic| first | with_reducible assumption | ((with_reducible refine DS.fr0 (by with_reducible assumption) ?_); top_args) | fail)
local macro_rules | `(tactic| tb_rel) => `(tactic| ((with_reducible refine w_draw4 ?_ ?_ ?_ ?_); (focus top_args); (focus top_raise0); (focus top_raise0); intro _ _ _ _ _ _))
local macro_rules | `(tactic| k_updF) => `(tactic| first | with_reducible exact DS.lt (by with_reducible assumption) | fail)
local macro_rules | `(tactic| tb_rel) => `(tactic| ((with_reducible apply r_put2L); (focus k_upd); (focus top_caught); (focus top_caught); intro _ hA _; (try simp only [Int.reduceToNat, List.set_cons_zero, List.set_cons_succ] at hA)))
section
variable {s : Sto} {Q : D → Sto → Prop} {E : XP} {u : Lk2 Q E}
end
end


set_option Elab.async false
set_option linter.all false
set_option maxRecDepth 100000
set_option maxHeartbeats 4000000
/-! the draws of the laws k31 to k64: instructions, code -/
open PySem L2 G
section
local macro_rules | `(tactic| top_args) => `(tactic| first | with_reducible assumption | ((with_reducible refine DS.fr0 (by with_reducible assumption) ?_); top_args) | fail)
local macro_rules | `(tactic| tb_rel) => `(tactic| ((with_reducible refine w_draw4 ?_ ?_ ?_ ?_); (focus top_args); (focus top_raise0); (focus top_raise0); intro _ _ _ _ _ _))
local macro_rules | `(tactic| k_updF) => `(tactic| first | with_reducible exact DS.lt (by with_reducible assumption) | fail)
local macro_rules | `(tactic| tb_rel) => `(tactic| ((with_reducible apply r_put2L); (focus k_upd); (focus top_caught); (focus top_caught); intro _ hA _; (try simp only [Int.reduceToNat, List.set_cons_zero, List.set_cons_succ] at hA)))
section
variable {s : Sto} {Q : D → Sto → Prop} {E : XP} {u : Lk2 Q E}
theorem Vals32.app {a b : List Int} (ha : Vals32 a) (hb : Vals32 b) : Vals32 (a ++ b) := fun v h => by
  rcases List.mem_append.mp h with q | q
  · exact ha v q
  · exact hb v q
end
end


set_option Elab.async false
set_option linter.all false
set_option maxRecDepth 100000
set_option maxHeartbeats 4000000
/-! alike, of the laws k31 to k64 -/
open PySem L2 G
def Alk (n : Nat) (s : Sto) (x y : D) : Prop := ∀ (t : Sto) (Q : D → Sto → Prop) (E : XP), Fr [] s t → (∀ t', Fr [] t t' → Q (.bl true) t') → wp (g_rlaw_alike_3 n [x, y]) t Q E
section
variable {s : Sto} {Q : D → Sto → Prop} {E : XP} {u : Lk2 Q E}
theorem RowsR.fr0 {s0 s t : Sto} {jd : Nat} {rds : List D} {rows : List (Int × List Int × Mem)} (h : RowsR s0 s jd rds rows) (f : Fr [] s t) : RowsR s0 t jd rds rows := h.fr f (by simp)
theorem ResR.fr0 {s0 s t : Sto} {e : Ins} {S : St} {m : Int} {d : D} (h : ResR s0 s e S m d) (f : Fr [] s t) : ResR s0 t e S m d := by
  obtain ⟨jd, jw, rds, h0, a1, a2, a3, a4⟩ := h
  exact ⟨jd, jw, rds, h0, a1.fr0 f, a2.fr0 f, a3.fr0 f, a4⟩
end
/-! what a run keeps to -/
structure StLim (S : St) (n : Int) : Prop where
  bl : S.bx.length = 8
  ml : (S.mem.length : Int) ≤ 1000 + 100 * n
  mn : (S.mem.map (·.1)).Nodup
  rl : (S.rows.length : Int) ≤ n
  rr : ∀ r ∈ S.rows, r.2.1.length ≤ 1000 ∧ (r.2.2.length : Int) ≤ 1000 + 100 * n ∧ (r.2.2.map (·.1)).Nodup
theorem StLim.up {S : St} {n m : Int} (h : StLim S n) (hm : n ≤ m) : StLim S m := ⟨h.bl, by have := h.ml; omega, h.mn, by have := h.rl; omega, fun r hr => by
  obtain ⟨a, b, c⟩ := h.rr r hr
  exact ⟨a, by omega, c⟩⟩


set_option Elab.async false
set_option linter.all false
set_option maxRecDepth 100000
set_option maxHeartbeats 4000000
/-! replies that a law draws -/
open PySem L2 G
section
local macro_rules | `(tactic| top_args) => `(tactic| first | with_reducible assumption | ((with_reducible refine DS.fr0 (by with_reducible assumption) ?_); top_args) | fail)
local macro_rules | `(tactic| tb_rel) => `(tactic| ((with_reducible refine w_draw4 ?_ ?_ ?_ ?_); (focus top_args); (focus top_raise0); (focus top_raise0); intro _ _ _ _ _ _))
local macro_rules | `(tactic| k_updF) => `(tactic| first | with_reducible exact DS.lt (by with_reducible assumption) | fail)
local macro_rules | `(tactic| tb_rel) => `(tactic| ((with_reducible apply r_put2L); (focus k_upd); (focus top_caught); (focus top_caught); intro _ hA _; (try simp only [Int.reduceToNat, List.set_cons_zero, List.set_cons_succ] at hA)))
/-- replies drawn so far: each with a dict of its own, new since s1 -/
def RepY (s1 s : Sto) (rds : List D) (R : List Repl) : Prop := rds.length = R.length ∧ ∀ (i : Nat) r, R[i]? = some r → ∃ j, rds[i]? = some (.tup [.tup (r.1.map D.int), .box j]) ∧ At s j (.dk (mD r.2)) ∧ Nw s1 j
theorem RepY.fr {s1 s t : Sto} {ks : List Nat} {rds : List D} {R : List Repl} (h : RepY s1 s rds R) (f : Fr ks s t) (n : ∀ k ∈ ks, ∀ kvs, ¬ At s k (.dk kvs)) : RepY s1 t rds R := ⟨h.1, fun i r e => by
  obtain ⟨j, h1, h2, h3⟩ := h.2 i r e
  exact ⟨j, h1, h2.fr f fun q => n j q _ h2, h3⟩⟩
theorem RepY.rep {s1 s : Sto} {rds : List D} {R : List Repl} (h : RepY s1 s rds R) : RepR s s rds R := ⟨h.1, fun i r e => by
  obtain ⟨j, h1, h2, h3⟩ := h.2 i r e
  exact ⟨j, h1, h2, h2.lt⟩⟩
/-- replies of old still stand -/
theorem RepR.up {s t : Sto} {rds : List D} {R : List Repl} (h : RepR s s rds R) (f : Fr [] s t) : RepR t t rds R := ⟨h.1, fun i r e => by
  obtain ⟨j, h1, h2, h3⟩ := h.2 i r e
  exact ⟨j, h1, h2.fr0 f, f.lt h3⟩⟩
def ReplG (R : List Repl) : Prop := ∀ r ∈ R, ReplOk r ∧ r.2.length ≤ 100 ∧ (r.2.map (·.1)).Nodup
section
variable {s : Sto} {Q : List D → Sto → Prop} {E : XP} {u : Lk1 Q}
end
end


set_option Elab.async false
set_option linter.all false
set_option maxRecDepth 100000
set_option maxHeartbeats 4000000
/-! a run cut, and gone on -/
open PySem L2 G
/-- a state behind rows of old -/
def St.behind (rs : List (Int × List Int × Mem)) (S : St) : St := { S with rows := rs ++ S.rows }


set_option Elab.async false
set_option linter.all false
set_option maxRecDepth 100000
set_option maxHeartbeats 4000000
/-! what a run's end is compared with; rows alike -/
open PySem L2 G
section
variable {s : Sto} {Q : D → Sto → Prop} {E : XP} {u : Lk2 Q E}
/-- a row of a run -/
def RowD (s : Sto) (r : Int × List Int × Mem) (d : D) : Prop := ∃ k, d = .tup [.int r.1, .tup (r.2.1.map D.int), .box k] ∧ At s k (.dk (mD r.2.2))
theorem RowsR.row {s0 s : Sto} {jd : Nat} {rds : List D} {rows : List (Int × List Int × Mem)} (h : RowsR s0 s jd rds rows) {i : Nat} {d : D} (e : rds[i]? = some d) : ∃ r, rows[i]? = some r ∧ RowD s r d := by
  have hil : i < rows.length := by
    have := (List.getElem?_eq_some_iff.mp e).1
    rw [h.1] at this
    exact this
  obtain ⟨r, hr⟩ : ∃ r, rows[i]? = some r := ⟨_, List.getElem?_eq_getElem hil⟩
  obtain ⟨k, e1, e2, _⟩ := h.2 _ _ hr
  rw [e] at e1
  cases e1
  exact ⟨r, hr, k, rfl, e2⟩
def RowLim (r : Int × List Int × Mem) : Prop := r.2.1.length ≤ 1000 ∧ r.2.2.length ≤ 800000 ∧ (r.2.2.map (·.1)).Nodup
end


set_option Elab.async false
set_option linter.all false
set_option maxRecDepth 100000
set_option maxHeartbeats 4000000
/-! texts, plainly: rows and pieces, words as eight signs, what a text is read to -/
open PySem L2 G TL
/-- a text's signs cut at each s -/
def cutA (s : Nat) : List Nat → List Nat → List (List Nat)
  | acc, [] => [acc]
  | acc, c :: r => if c = s then acc :: cutA s [] r else cutA s (acc ++ [c]) r
theorem spl_one (s : Nat) : ∀ (l acc : List Nat), TL.spl [s] 0 acc l = cutA s acc l
  | [], acc => TL.spl_nil _ _ _
  | c :: r, acc => by
    by_cases h : c = s
    · subst h
      rw [TL.spl_hit (by simp [TL.pre])]
      show acc :: TL.spl [c] 0 [] r = _
      rw [spl_one c r []]
      simp [cutA]
    · rw [TL.spl_miss (TL.pre_of_head [] r h), spl_one s r (acc ++ [c])]
      simp [cutA, h]
theorem split_cut {x y : Str} {s : Nat} (hy : tl y = [s]) (hs : s < 256) : Txt.split x y = (cutA s [] (tl x)).map fun l => ⟨l.toArray⟩ := by
  refine TL.map_tl_inj ?_
  rw [TL.split_spl x y (by rw [hy]; simp) (TL.kind_ok (by rw [← Array.all_toList]; show (tl y).all _ = true; rw [hy]; simpa using hs)), hy, spl_one, List.map_map]
  simp [Function.comp_def, TL.tl_mk]
/-! ### signs -/
def hx (d : Nat) : Nat := if d < 10 then 48 + d else 87 + d
def hv (c : Nat) : Nat := if c < 58 then c - 48 else c - 87
def inH (c : Nat) : Bool := (decide (48 ≤ c) && decide (c ≤ 57)) || (decide (97 ≤ c) && decide (c ≤ 102))
def isWd (p : List Nat) : Bool := p.all inH && decide (p.length = 8)
def val (p : List Nat) : Nat := p.foldl (fun a c => a * 16 + hv c) 0
theorem hv_hx {d : Nat} (h : d < 16) : hv (hx d) = d := by
  unfold hv hx
  split <;> split <;> omega
theorem inH_hx {d : Nat} (h : d < 16) : inH (hx d) = true := by
  unfold inH hx
  split <;> simp <;> omega
def hexL (w : Nat) : List Nat := [hx (w / 268435456 % 16), hx (w / 16777216 % 16), hx (w / 1048576 % 16), hx (w / 65536 % 16), hx (w / 4096 % 16), hx (w / 256 % 16), hx (w / 16 % 16), hx (w % 16)]
def hexS (w : Int) : Str := ⟨(hexL w.toNat).toArray⟩
theorem hexL_len (w : Nat) : (hexL w).length = 8 := rfl
theorem isWd_hexL (w : Nat) : isWd (hexL w) = true := by
  have h : ∀ x : Nat, inH (hx (x % 16)) = true := fun x => inH_hx (Nat.mod_lt _ (by decide))
  simp [isWd, hexL, h]
theorem val_hexL {w : Nat} (hw : w < 4294967296) : val (hexL w) = w := by
  have h : ∀ x : Nat, hv (hx (x % 16)) = x % 16 := fun x => hv_hx (Nat.mod_lt _ (by decide))
  simp only [val, hexL, List.foldl_cons, List.foldl_nil, h]
  omega
/-- of these signs and no others -/
theorem inH_no {c : Nat} (h : inH c = true) : c ≠ 10 ∧ c ≠ 32 := by
  unfold inH at h
  simp at h
  omega
theorem hexL_no {w c : Nat} (h : c ∈ hexL w) : c ≠ 10 ∧ c ≠ 32 := by
  have := isWd_hexL w
  simp only [isWd, Bool.and_eq_true, List.all_eq_true] at this
  exact inH_no (this.1 c h)
/-! ### what is read -/
abbrev Rd := Except Int (List Int)
def endp (k : Int) (ws : List Int) (p : List Nat) : Rd := if p = [] then .ok ws else if isWd p = true then .ok (ws ++ [(val p : Int)]) else .error k
def thnE (x : Rd) (f : List Int → Rd) : Rd := match x with
  | .ok w => f w
  | .error e => .error e
def rdS : Int → List Int → List Nat → List Nat → Rd
  | k, ws, p, [] => endp k ws p
  | k, ws, p, c :: r => if c = 10 then thnE (endp k ws p) fun w => rdS (k + 1) w [] r else if c = 32 then thnE (endp k ws p) fun w => rdS k w [] r else rdS k ws (p ++ [c]) r
def rowF (k : Int) : List Int → List (List Nat) → Rd
  | ws, [] => .ok ws
  | ws, p :: ps => thnE (endp k ws p) fun w => rowF k w ps
def rowsF : Int → List Int → List (List Nat) → Rd
  | _, ws, [] => .ok ws
  | k, ws, r :: rs => thnE (rowF k ws (cutA 32 [] r)) fun w => rowsF (k + 1) w rs
theorem thn_ok (x : Rd) : thnE x .ok = x := by cases x <;> rfl
theorem thn_thn (x : Rd) (f g : List Int → Rd) : thnE (thnE x f) g = thnE x fun w => thnE (f w) g := by cases x <;> rfl
theorem rd_row (k : Int) : ∀ (l p : List Nat) (ws : List Int), 10 ∉ l → rdS k ws p l = rowF k ws (cutA 32 p l)
  | [], p, ws, _ => by
    show endp k ws p = thnE (endp k ws p) fun w => .ok w
    rw [thn_ok]
  | c :: r, p, ws, h => by
    have hc : c ≠ 10 := fun e => h (by rw [e]; exact List.mem_cons_self)
    have hr : 10 ∉ r := fun e => h (List.mem_cons_of_mem _ e)
    by_cases h2 : c = 32
    · subst h2
      simp only [rdS, if_neg hc, if_pos, cutA, rowF]
      congr 1
      funext w
      exact rd_row k r [] w hr
    · simp only [rdS, if_neg hc, if_neg h2, cutA]
      exact rd_row k r (p ++ [c]) ws hr
theorem rd_row2 (k : Int) (t : List Nat) : ∀ (l p : List Nat) (ws : List Int), 10 ∉ l → rdS k ws p (l ++ 10 :: t) = thnE (rowF k ws (cutA 32 p l)) fun w => rdS (k + 1) w [] t
  | [], p, ws, _ => by
    show (if (10 : Nat) = 10 then thnE (endp k ws p) fun w => rdS (k + 1) w [] t else _) = thnE (thnE (endp k ws p) fun w => .ok w) _
    rw [if_pos rfl, thn_thn]
    rfl
  | c :: r, p, ws, h => by
    have hc : c ≠ 10 := fun e => h (by rw [e]; exact List.mem_cons_self)
    have hr : 10 ∉ r := fun e => h (List.mem_cons_of_mem _ e)
    rw [List.cons_append]
    by_cases h2 : c = 32
    · subst h2
      simp only [rdS, if_neg hc, if_pos, cutA, rowF, thn_thn]
      congr 1
      funext w
      exact rd_row2 k t r [] w hr
    · simp only [rdS, if_neg hc, if_neg h2, cutA]
      exact rd_row2 k t r (p ++ [c]) ws hr
theorem rd_rows : ∀ (t acc : List Nat) (k : Int) (ws : List Int), 10 ∉ acc → rowsF k ws (cutA 10 acc t) = rdS k ws [] (acc ++ t)
  | [], acc, k, ws, h => by
    rw [List.append_nil, rd_row k acc [] ws h]
    show thnE (rowF k ws (cutA 32 [] acc)) (fun w => .ok w) = _
    rw [thn_ok]
  | c :: r, acc, k, ws, h => by
    by_cases hc : c = 10
    · subst hc
      rw [rd_row2 k r acc [] ws h]
      simp only [cutA, if_pos, rowsF]
      congr 1
      funext w
      exact rd_rows r [] (k + 1) w (by simp)
    · simp only [cutA, if_neg hc]
      rw [rd_rows r (acc ++ [c]) k ws (by simp [h]; omega), List.append_assoc]
      rfl
/-- l is read to ws, and nothing is left open -/
def RdsTo (l : List Nat) (ws : List Int) : Prop := ∀ (k : Int) (acc : List Int) (r : List Nat), rdS k acc [] (l ++ r) = rdS (k + (l.count 10 : Nat)) (acc ++ ws) [] r
theorem RdsTo.nil : RdsTo [] [] := fun k acc r => by simp
theorem RdsTo.app {l m : List Nat} {ws vs : List Int} (h : RdsTo l ws) (h' : RdsTo m vs) : RdsTo (l ++ m) (ws ++ vs) := fun k acc r => by
  rw [List.append_assoc, h, h', List.append_assoc, List.count_append, Int.natCast_add, Int.add_assoc]
theorem RdsTo.bl {c : Nat} (h : c = 10 ∨ c = 32) : RdsTo [c] [] := fun k acc r => by
  rcases h with rfl | rfl <;> simp [rdS, endp, thnE]
theorem rd_word : ∀ (l p : List Nat) (k : Int) (acc : List Int) (r : List Nat), (∀ c ∈ l, c ≠ 10 ∧ c ≠ 32) → rdS k acc p (l ++ r) = rdS k acc (p ++ l) r
  | [], p, k, acc, r, _ => by simp
  | c :: l, p, k, acc, r, h => by
    obtain ⟨h1, h2⟩ := h c List.mem_cons_self
    rw [List.cons_append]
    simp only [rdS, if_neg h1, if_neg h2]
    rw [rd_word l (p ++ [c]) k acc r fun c hc => h c (List.mem_cons_of_mem _ hc), List.append_assoc]
    rfl
theorem endp_hex {k : Int} {acc : List Int} {w : Nat} (hw : w < 4294967296) : endp k acc (hexL w) = .ok (acc ++ [(w : Int)]) := by
  unfold endp
  rw [if_neg (by simp [hexL]), if_pos (isWd_hexL w), val_hexL hw]
theorem RdsTo.word {w c : Nat} (hw : w < 4294967296) (h : c = 10 ∨ c = 32) : RdsTo (hexL w ++ [c]) [(w : Int)] := fun k acc r => by
  have hn : (hexL w).count 10 = 0 := List.count_eq_zero.2 fun hm => (hexL_no hm).1 rfl
  rw [List.append_assoc, rd_word _ _ _ _ _ fun c hc => hexL_no hc, List.nil_append, List.count_append, hn]
  rcases h with rfl | rfl <;> simp [rdS, endp_hex hw, thnE]
theorem rd_last {w : Nat} (hw : w < 4294967296) (k : Int) (acc : List Int) : rdS k acc [] (hexL w) = .ok (acc ++ [(w : Int)]) := by
  have := rd_word (hexL w) [] k acc [] fun c hc => hexL_no hc
  rw [List.append_nil] at this
  rw [this]
  show endp k acc ([] ++ hexL w) = _
  rw [List.nil_append, endp_hex hw]
/-- a piece that is none -/
theorem rd_bad {k : Int} {acc : List Int} {p r : List Nat} (h : ∀ c ∈ p, c ≠ 10 ∧ c ≠ 32) (h0 : p ≠ []) (h1 : isWd p = false) : rdS k acc [] (p ++ 32 :: r) = .error k := by
  rw [rd_word _ _ _ _ _ h, List.nil_append]
  simp [rdS, endp, h0, h1, thnE]
/-! ### written texts -/
def W32 (ws : List Int) : Prop := ∀ w ∈ ws, 0 ≤ w ∧ w < 4294967296
/-- a row -/
def rowL (ws : List Int) : List Nat := joinL [32] (ws.map fun w => hexL w.toNat)
theorem rowL_ok : ∀ {ws : List Int}, W32 ws → (∀ k acc, rdS k acc [] (rowL ws) = .ok (acc ++ ws)) ∧ ∀ k acc r, rdS k acc [] (rowL ws ++ 10 :: r) = rdS (k + 1) (acc ++ ws) [] r
  | [], _ => by
    refine ⟨fun k acc => ?_, fun k acc r => ?_⟩
    · simp [rowL, joinL, rdS, endp]
    · simp [rowL, joinL, rdS, endp, thnE]
  | [w], h => by
    obtain ⟨h0, h1⟩ := h w List.mem_cons_self
    have hw : w.toNat < 4294967296 := by omega
    have e : (w.toNat : Int) = w := by omega
    refine ⟨fun k acc => ?_, fun k acc r => ?_⟩
    · show rdS k acc [] (hexL w.toNat) = _
      rw [rd_last hw, e]
    · show rdS k acc [] (hexL w.toNat ++ 10 :: r) = _
      have := RdsTo.word hw (.inl rfl) k acc r
      have hn : (hexL w.toNat).count 10 = 0 := List.count_eq_zero.2 fun hm => (hexL_no hm).1 rfl
      rw [List.append_assoc, List.singleton_append, List.count_append, hn, e] at this
      simpa using this
  | w :: v :: ws, h => by
    obtain ⟨h0, h1⟩ := h w List.mem_cons_self
    have hw : w.toNat < 4294967296 := by omega
    have e : (w.toNat : Int) = w := by omega
    obtain ⟨i1, i2⟩ := rowL_ok (ws := v :: ws) fun x hx => h x (List.mem_cons_of_mem _ hx)
    have el : rowL (w :: v :: ws) = (hexL w.toNat ++ [32]) ++ rowL (v :: ws) := by simp [rowL, joinL]
    have hn : (hexL w.toNat).count 10 = 0 := List.count_eq_zero.2 fun hm => (hexL_no hm).1 rfl
    have key : ∀ k acc r, rdS k acc [] ((hexL w.toNat ++ [32]) ++ r) = rdS k (acc ++ [w]) [] r := fun k acc r => by
      have := RdsTo.word hw (.inr rfl) k acc r
      rw [List.count_append, hn, e] at this
      simpa using this
    refine ⟨fun k acc => ?_, fun k acc r => ?_⟩
    · rw [el, key, i1]
      simp
    · rw [el, List.append_assoc, key, i2]
      simp
/-- rows -/
theorem rows_ok : ∀ {cs : List (List Int)} (k : Int) (acc : List Int), (∀ c ∈ cs, W32 c) → rdS k acc [] (joinL [10] (cs.map rowL)) = .ok (acc ++ cs.flatten)
  | [], k, acc, _ => by simp [joinL, rdS, endp]
  | [c], k, acc, h => by
    show rdS k acc [] (rowL c) = _
    rw [(rowL_ok (h c List.mem_cons_self)).1]
    simp
  | c :: d :: cs, k, acc, h => by
    show rdS k acc [] (rowL c ++ ([10] ++ joinL [10] ((d :: cs).map rowL))) = _
    rw [List.singleton_append, (rowL_ok (h c List.mem_cons_self)).2, rows_ok (cs := d :: cs) (k + 1) (acc ++ c) fun x hx => h x (List.mem_cons_of_mem _ hx)]
    simp
/-- eight in a row -/
def chunk (ws : List Int) (i : Nat) : List Int := (ws.drop (8 * i)).take 8
theorem chunks_all (ws : List Int) : ∀ n, ((List.range n).map (chunk ws)).flatten = ws.take (8 * n)
  | 0 => by simp
  | n + 1 => by
    rw [List.range_succ, List.map_append, List.flatten_append, chunks_all ws n]
    simp only [List.map_cons, List.map_nil, List.flatten_cons, List.flatten_nil, List.append_nil, chunk]
    rw [show 8 * (n + 1) = 8 * n + 8 by omega, List.take_add]
def codeL (ws : List Int) : List Nat := joinL [10] (((List.range ((ws.length + 7) / 8)).map (chunk ws)).map rowL)
theorem codeL_ok {ws : List Int} (h : W32 ws) (k : Int) : rdS k [] [] (codeL ws) = .ok ws := by
  unfold codeL
  rw [rows_ok k [] fun c hc => ?_]
  · rw [List.nil_append, chunks_all, List.take_of_length_le (by omega)]
  · obtain ⟨i, _, rfl⟩ := List.mem_map.1 hc
    exact fun w hw => h w (List.mem_of_mem_drop (List.mem_of_mem_take hw))
theorem joinL_len (S : List Nat) : ∀ ps : List (List Nat), (joinL S ps).length ≤ (ps.map (·.length)).sum + ps.length * S.length
  | [] => by simp [joinL]
  | [p] => by simp [joinL]
  | p :: q :: r => by
    have := joinL_len S (q :: r)
    simp only [joinL, List.length_append, List.map_cons, List.sum_cons, List.length_cons] at this ⊢
    rw [Nat.add_mul] at this ⊢
    rw [Nat.add_mul]
    omega


set_option Elab.async false
set_option linter.all false
set_option maxRecDepth 100000
set_option maxHeartbeats 4000000
/-! the draws of the laws k21 to k26, k71 to k92: a deal is a list of two ints -/
open PySem L2 G
def Deal2 (s : Sto) (j : Nat) : Prop := ∃ a b : Int, At s j (.lst [.int a, .int b])
theorem Deal2.lt {s : Sto} {j : Nat} (h : Deal2 s j) : j < s.length := by
  obtain ⟨a, b, h⟩ := h
  exact h.lt
theorem Deal2.fr {js : List Nat} {s t : Sto} {j : Nat} (f : Fr js s t) (h : Deal2 s j) (n : j ∉ js) : Deal2 t j := by
  obtain ⟨a, b, h⟩ := h
  exact ⟨a, b, h.fr f n⟩
theorem Deal2.fr0 {s t : Sto} {j : Nat} (f : Fr [] s t) (h : Deal2 s j) : Deal2 t j := h.fr f (by simp)
theorem w_draw {s : Sto} {j : Nat} {m : Int} {Q : D → Sto → Prop} {E : XP} {u : Lk2 Q E} (h : Deal2 s j) (h0 : 0 < m) (h1 : m < 2 ^ 128) (k : ∀ r t, 0 ≤ r → r < m → Deal2 t j → Fr [j] s t → Q (.int r) t) : wp (g_law_draw_1 [.box j, .int m]) s Q E u := by
  obtain ⟨a, b, h⟩ := h
  refine u_law_draw_1 ?_
  unfold c_law_draw_1
  have fin : ∀ t, Fr [j] s t → (∃ a b : Int, At t j (.lst [.int a, .int b])) → ∀ x, Q (.int (x % m)) t := fun t f d x => k _ _ (mod_lo h0) (mod_hi h0) d f
  clear k
  tb_start
  by_cases c0 : 0 = a
  · tb_start
    refine fin _ (by top_name) ⟨_, _, by k_upd⟩ _
  by_cases c1 : -1 = a
  · tb_start
    refine fin _ (by top_name) ⟨_, _, by k_upd⟩ _
  · tb_start
    refine fin _ (by top_name) ⟨_, _, by k_upd⟩ _


set_option Elab.async false
set_option linter.all false
set_option maxRecDepth 100000
set_option maxHeartbeats 4000000
/-! spans: the laws' own draws of them, and what the program tells -/
open PySem L2 G
local macro_rules | `(tactic| top_args) => `(tactic| first | with_reducible assumption | ((with_reducible refine Deal2.fr0 (by with_reducible assumption) ?_); top_args) | fail)
local macro_rules | `(tactic| tb_rel) => `(tactic| ((with_reducible refine w_draw ?_ ?_ ?_ ?_); (focus top_args); (focus top_raise0); (focus top_raise0); intro _ _ _ _ _ _))
local macro_rules | `(tactic| k_updF) => `(tactic| first | with_reducible exact Deal2.lt (by with_reducible assumption) | fail)
/-- what is told of a span: the greatest power where it is of one value -/
def tz (lo hi z : Int) : Int := if lo = hi then zv lo else z
abbrev tld (lo hi z : Int) : D := .tup [.int lo, .int hi, .int (tz lo hi z)]
/-- a span -/
structure SpanOk (lo hi z : Int) : Prop where
  z0 : 0 ≤ z
  z1 : z ≤ 32
  lo0 : 0 ≤ lo
  le : lo ≤ hi
  hi1 : hi < 4294967296
  mlo : lo % p2 z = 0
  mhi : hi % p2 z = 0
  one : lo = hi → z = zv lo


set_option Elab.async false
set_option linter.all false
set_option maxRecDepth 100000
set_option maxHeartbeats 4000000
/-! the program's own spans -/
open PySem L2 G
section
variable {s : Sto} {Q : D → Sto → Prop} {E : XP} {u : Lk2 Q E}
theorem w_rest {v b : Int} (h0 : 0 ≤ b) (h1 : b ≤ 1000) (k : Q (.int (v % p2 b)) s) : wp (g_rest [.int v, .int b]) s Q E u := by
  refine u_rest ?_
  unfold c_rest
  tb_start
abbrev allS (z : Int) : D := tld 0 (4294967296 - p2 z) z
def sumS (l1 h1 z1 l2 h2 z2 : Int) : D := if h1 + h2 < 4294967296 then tld (l1 + l2) (h1 + h2) (min z1 z2) else allS (min z1 z2)
def difS (l1 h1 z1 l2 h2 z2 : Int) : D := if h2 ≤ l1 then tld (l1 - h2) (h1 - l2) (min z1 z2) else allS (min z1 z2)
def moreS (l1 h1 z1 n : Int) : D := if 0 ≤ l1 + n ∧ h1 + n < 4294967296 then tld (l1 + n) (h1 + n) (min z1 (zv n)) else allS (min z1 (zv n))
end


set_option Elab.async false
set_option linter.all false
set_option maxRecDepth 100000
set_option maxHeartbeats 4000000
/-! texts: words written, walked -/
open PySem L2 G TL
section
variable {s : Sto} {Q : D → Sto → Prop} {E : XP} {u : Lk2 Q E}
theorem hex_at {n : Nat} (hn : n < 16) : dIx (.str "0123456789abcdef") (.int (n : Int)) s = .ok (.str ⟨#[hx n]⟩) s := by
  have h : n = 0 ∨ n = 1 ∨ n = 2 ∨ n = 3 ∨ n = 4 ∨ n = 5 ∨ n = 6 ∨ n = 7 ∨ n = 8 ∨ n = 9 ∨ n = 10 ∨ n = 11 ∨ n = 12 ∨ n = 13 ∨ n = 14 ∨ n = 15 := by omega
  rcases h with rfl | rfl | rfl | rfl | rfl | rfl | rfl | rfl | rfl | rfl | rfl | rfl | rfl | rfl | rfl | rfl <;> rfl
theorem r_hex {d : Int} (h0 : 0 ≤ d) (h1 : d < 16) (k : Q (.str ⟨#[hx d.toNat]⟩) s) : wp (dIx (.str "0123456789abcdef") (.int d)) s Q E u := by
  obtain ⟨n, rfl⟩ := Int.eq_ofNat_of_zero_le h0
  unfold wp
  rw [hex_at (by omega)]
  exact k
/-- the last signs of a word -/
def suf (w : Nat) : Nat → List Nat
  | 0 => []
  | i + 1 => hx (w / 16 ^ i % 16) :: suf w i
theorem suf_8 (w : Nat) : suf w 8 = hexL w := by simp [suf, hexL]
theorem suf_len (w : Nat) : ∀ i, (suf w i).length = i
  | 0 => rfl
  | i + 1 => by simp [suf, suf_len w i]
theorem str_app (l m : List Nat) : (⟨l.toArray⟩ ++ ⟨m.toArray⟩ : Str) = ⟨(l ++ m).toArray⟩ := TL.ext_tl (by rw [TL.tl_append])
theorem w_signs {w : Int} (h0 : 0 ≤ w) (h1 : w < 4294967296) (k : Q (.str (hexS w)) s) : wp (g_law_signs [.int w]) s Q E u := by
  obtain ⟨n, rfl⟩ := Int.eq_ofNat_of_zero_le h0
  refine u_law_signs ?_
  unfold c_law_signs
  tb_start
  refine wfor_r (σ := Unit) (fun i _ => [some (.int ((n / 16 ^ i : Nat) : Int)), some (.str ⟨(suf n i).toArray⟩), none]) (fun i _ t => t = s) () ⟨by simp, rfl, trivial⟩ rfl ?_ ?_
  · rintro i ⟨⟩ f t hi rfl
    have bg := big_eq
    kbo_bools
    have e : (n : Int) / 16 ^ i % 16 = ((n / 16 ^ i % 16 : Nat) : Int) := by simp
    have hl : (n / 16 ^ i) % 16 < 16 := Nat.mod_lt _ (by decide)
    rw [e]
    refine r_hex (by omega) (by omega) ?_
    rw [Int.toNat_natCast]
    kbo_bools
    refine gd_i (by rw [TL.len_tl, TL.len_tl]; simp [suf_len]; omega) ?_
    tb_start
    refine ⟨(), ⟨?_, ?_, trivial⟩, rfl⟩
    · rw [Nat.pow_succ, ← Nat.div_div_eq_div_mul]
      simp
    · exact congrArg (fun z => some (D.str z)) (str_app [hx (n / 16 ^ i % 16)] (suf n i))
  · rintro ⟨⟩ f t rfl
    tb_start
    rw [suf_8]
    exact k
theorem strsD_map : ∀ ys : List Str, strsD (ys.map D.str) = some ys
  | [] => rfl
  | y :: ys => by
    show (strsD (ys.map D.str)).map (y :: ·) = _
    rw [strsD_map ys]
    rfl
theorem rowS_box {j : Nat} {ys : List Str} (h : At s j (.lst (ys.map D.str))) : rowS s (.box j) = some ys := by
  show (match lAt s j with | some xs => strsD xs | none => none) = _
  rw [lAt_at h]
  exact strsD_map ys
theorem joinL_nil : ∀ ps : List (List Nat), joinL [] ps = ps.flatten
  | [] => rfl
  | [p] => by simp [joinL]
  | p :: q :: r => by
    show p ++ ([] ++ joinL [] (q :: r)) = _
    rw [joinL_nil (q :: r)]
    rfl
/-- a text joined -/
theorem join_tl (a : Str) (ys : List Str) : Txt.join a ys = ⟨(joinL (tl a) (ys.map tl)).toArray⟩ := TL.ext_tl (by rw [TL.join_eq, TL.tl_join])
theorem tl_emp : tl (("" : String) : Str) = [] := by rw [show ((("" : String) : Str)) = Str.ofString "" from rfl, TL.tl_ofString]; rfl
theorem tl_sp : tl ((" " : String) : Str) = [32] := by rw [show (((" " : String) : Str)) = Str.ofString " " from rfl, TL.tl_ofString]; rfl
theorem tl_nl : tl (("\n" : String) : Str) = [10] := by rw [show ((("\n" : String) : Str)) = Str.ofString "\n" from rfl, TL.tl_ofString]; rfl
def dig (n i : Nat) : Str := ⟨#[hx (n / 2 ^ (4 * (7 - i)) % 16)]⟩
theorem digs (n : Nat) : Txt.join (("" : String) : Str) ((List.range 8).map (dig n)) = ⟨(hexL n).toArray⟩ := by
  rw [join_tl, tl_emp, joinL_nil]
  have e : List.range 8 = [0, 1, 2, 3, 4, 5, 6, 7] := rfl
  rw [e]
  simp [dig, hexL]
  rfl
theorem w_word_text {w : Int} (h0 : 0 ≤ w) (h1 : w < 4294967296) (k : ∀ t, Fr [] s t → Q (.str (hexS w)) t) : wp (g_word_text [.int w]) s Q E u := by
  obtain ⟨n, rfl⟩ := Int.eq_ofNat_of_zero_le h0
  refine u_word_text ?_
  unfold c_word_text
  tb_start
  refine r_lcN ?_
  tb_start
  refine wlc_i ((List.range 8).map fun (i : Nat) => D.int (7 + (i : Int) * (-1))) (fun i ys t => t = s ∧ ys = (List.range i).map fun i => D.str (dig n i)) rfl (by simp) ⟨rfl, rfl⟩ (fun _ _ _ _ => rfl) ?_ ?_
  · rintro i x ys t hx ⟨rfl, rfl⟩
    rw [List.getElem?_map] at hx
    have hi : i < 8 := by
      rcases Nat.lt_or_ge i 8 with c | c
      · exact c
      · rw [List.getElem?_eq_none (by simpa using c)] at hx
        cases hx
    rw [List.getElem?_range hi] at hx
    obtain rfl : D.int (7 + (i : Int) * (-1)) = x := Option.some.inj hx
    have e1 : 7 + (i : Int) * (-1) = ((7 - i : Nat) : Int) := by omega
    rw [e1]
    tb_start
    refine w_rest (by omega) (by omega) ?_
    have e2 : (n : Int) / p2 (4 * ((7 - i : Nat) : Int)) % p2 4 = ((n / 2 ^ (4 * (7 - i)) % 16 : Nat) : Int) := by
      unfold p2
      rw [show (4 * ((7 - i : Nat) : Int)).toNat = 4 * (7 - i) by omega]
      simp
    rw [e2]
    have hl : n / 2 ^ (4 * (7 - i)) % 16 < 16 := Nat.mod_lt _ (by decide)
    refine r_hex (by omega) (by omega) ?_
    rw [Int.toNat_natCast]
    refine ⟨rfl, ?_⟩
    rw [List.range_succ, List.map_append]
    rfl
  · rintro ys t ⟨rfl, rfl⟩
    rw [List.length_map, List.length_range]
    rw [show (List.range 8).map (fun i => D.str (dig n i)) = ((List.range 8).map (dig n)).map D.str by rw [List.map_map]; rfl]
    generalize hys : (List.range 8).map (dig n) = ys
    refine r_new ?_
    intro t1 j hj hn hf
    refine r_join (rowS_box hj) (by rw [← hys, show ((List.range 8).map (dig n)).map (·.length) = [1, 1, 1, 1, 1, 1, 1, 1] from rfl, List.length_map, List.length_range]; decide +kernel) ?_
    rw [← hys]
    rw [digs]
    exact k _ (by top_name)
theorem hexS_len (w : Int) : (hexS w).length = 8 := rfl
/-- a row's text -/
def rowT (ws : List Int) : Str := Txt.join ((" " : String) : Str) (ws.map hexS)
theorem rowT_tl (ws : List Int) : rowT ws = ⟨(rowL ws).toArray⟩ := by
  unfold rowT rowL
  rw [join_tl, tl_sp, List.map_map]
  rfl
theorem sum_hexS : ∀ ws : List Int, ((ws.map hexS).map (·.length)).sum = 8 * ws.length
  | [] => rfl
  | w :: ws => by
    rw [List.map_cons, List.map_cons, List.sum_cons, sum_hexS ws, hexS_len, List.length_cons]
    omega
theorem sum_hexL : ∀ ws : List Int, ((ws.map fun w => hexL w.toNat).map (·.length)).sum = 8 * ws.length
  | [] => rfl
  | w :: ws => by
    rw [List.map_cons, List.map_cons, List.sum_cons, sum_hexL ws, hexL_len, List.length_cons]
    omega
theorem rowT_len {ws : List Int} (h : ws.length ≤ 8) : (rowT ws).length ≤ 72 := by
  rw [rowT_tl]
  show (rowL ws).toArray.size ≤ 72
  rw [List.size_toArray]
  have := joinL_len [32] (ws.map fun w => hexL w.toNat)
  have e : ((ws.map fun w => hexL w.toNat).map (·.length)).sum = 8 * ws.length := sum_hexL ws
  rw [e, List.length_map] at this
  unfold rowL
  simp only [List.length_cons, List.length_nil] at this
  omega
def codeT (ws : List Int) : Str := Txt.join (("\n" : String) : Str) ((List.range ((ws.length + 7) / 8)).map fun i => rowT (chunk ws i))
theorem codeT_tl (ws : List Int) : codeT ws = ⟨(codeL ws).toArray⟩ := by
  unfold codeT codeL
  rw [join_tl, tl_nl, List.map_map, List.map_map]
  congr 3
  refine List.map_congr_left fun i _ => ?_
  show tl (rowT (chunk ws i)) = rowL (chunk ws i)
  rw [rowT_tl]
theorem chunk_len (ws : List Int) (i : Nat) : (chunk ws i).length ≤ 8 := by
  unfold chunk
  rw [List.length_take]
  omega
theorem chunk_cut {ws : List Int} {i : Nat} : cutD (ws.map D.int) (some ((i : Int) * 8)) (some ((i : Int) * 8 + 8)) = (chunk ws i).map D.int := by
  unfold chunk
  rw [List.map_take, List.map_drop]
  generalize ws.map D.int = xs
  unfold cutD
  rw [sIx_nn (by omega), sIx_nn (by omega)]
  have e1 : ((i : Int) * 8).toNat = 8 * i := by omega
  have e2 : ((i : Int) * 8 + 8).toNat = 8 * i + 8 := by omega
  rw [e1, e2]
  by_cases c : 8 * i ≤ xs.length
  · rw [Nat.min_eq_left c]
    by_cases c2 : 8 * i + 8 ≤ xs.length
    · rw [Nat.min_eq_left c2, show 8 * i + 8 - 8 * i = 8 by omega]
    · rw [Nat.min_eq_right (by omega), List.take_of_length_le (by simp), List.take_of_length_le (by rw [List.length_drop]; omega)]
  · rw [Nat.min_eq_right (by omega), Nat.min_eq_right (by omega), List.drop_of_length_le (Nat.le_refl _), List.drop_of_length_le (by omega)]
    simp
theorem sum_le {l : List Nat} {b : Nat} : (∀ x ∈ l, x ≤ b) → l.sum ≤ b * l.length := by
  induction l with
  | nil => simp
  | cons x l ih =>
    intro h
    have h1 := h x List.mem_cons_self
    have h2 := ih fun y hy => h y (List.mem_cons_of_mem _ hy)
    rw [List.sum_cons, List.length_cons, Nat.mul_succ]
    omega
theorem codeT_len (ws : List Int) : (codeT ws).length ≤ 73 * ((ws.length + 7) / 8) := by
  rw [codeT_tl]
  show (codeL ws).toArray.size ≤ _
  rw [List.size_toArray]
  unfold codeL
  rw [List.map_map]
  have h1 := joinL_len [10] ((List.range ((ws.length + 7) / 8)).map (rowL ∘ chunk ws))
  have h2 := sum_le (l := ((List.range ((ws.length + 7) / 8)).map (rowL ∘ chunk ws)).map (·.length)) (b := 72) fun x hx => by
    obtain ⟨y, hy, rfl⟩ := List.mem_map.1 hx
    obtain ⟨i, _, rfl⟩ := List.mem_map.1 hy
    have := rowT_len (chunk_len ws i)
    rw [rowT_tl] at this
    simpa [Str.length] using this
  simp only [List.length_map, List.length_range, List.length_cons, List.length_nil] at h1 h2
  omega
/-- rows of eight, each word written by g -/
noncomputable def rowsC (g : List D → Cm D) : CS := sSeq (sSet 1 (cLst (aNil))) (sSeq (sFor (iRngS (cK (.int 0)) (cCall bLen (aCons (cV 0) (aNil))) (8)) (.v 2) (sDrop (cBmL dApp (cV 1) (aCons (cM1 dJoin (cK (.str " ")) (cLc (iSeq (cSl (cV 0) (oSome (cV 2)) (oSome (cBin dAdd (cV 2) (cK (.int 8)))))) (.v 3) [3] (tYesD) (cCall g (aCons (cV 3) (aNil))))) (aNil))))) (sRet (cM1 dJoin (cK (.str "\n")) (cV 1))))
theorem w_rowsC {g : List D → Cm D} (hg : ∀ (w : Int) (s : Sto) (Q : D → Sto → Prop) (E : XP) (u : Lk2 Q E), 0 ≤ w → w < 4294967296 → (∀ t, Fr [] s t → Q (.str (hexS w)) t) → wp (g [.int w]) s Q E u)
    {j : Nat} {vs : List Int} (hj : At s j (.lst (vs.map D.int))) (hw : W32 vs) (hl : vs.length ≤ 1000) (k : ∀ t, Fr [] s t → Q (.str (codeT vs)) t) : ws (rowsC g) [some (.box j), none, none, none] s (fun _ t => Q .non t) Q NE NE E := by
  unfold rowsC
  tb_start
  rename_i t0 jr hjr hnr hf0
  have en : (((vs.length : Int) + 8 - 1) / 8).toNat = (vs.length + 7) / 8 := by omega
  rw [en]
  refine wfor_rc (σ := Unit) (fun i _ => [some (.box j), some (.box jr), none, none]) (fun i _ t => At t jr (.lst (((List.range i).map fun i => rowT (chunk vs i)).map D.str)) ∧ Fr [jr] t0 t) () ⟨rfl, rfl, trivial⟩ ⟨hjr, Fr.refl⟩ ?_ ?_
  · rintro i ⟨⟩ f t hi ⟨a1, a2⟩
    have hj' : At t j (.lst (vs.map D.int)) := by k_upd
    tb_start
    refine r_lcN ?_
    kbo_bools
    refine r_slL hj' ?_
    refine r_new ?_
    intro t1 jc hjc hnc hf1
    rw [chunk_cut] at hjc
    tb_start
    have cl := chunk_len vs i
    refine wlc_i ((chunk vs i).map D.int) (fun m ys t' => Fr [] t1 t' ∧ ys = (((chunk vs i).take m).map hexS).map D.str) (lAt_at hjc) (by rw [List.length_map]; omega) ⟨Fr.refl, rfl⟩ (fun _ _ t' q => lAt_at (hjc.fr0 q.1)) ?_ ?_
    · rintro m x ys t' hx ⟨b1, rfl⟩
      rw [List.getElem?_map] at hx
      obtain ⟨w, hwx, rfl⟩ := Option.map_eq_some_iff.1 hx
      obtain ⟨w0, w1⟩ := hw w (List.mem_of_mem_drop (List.mem_of_mem_take (List.mem_of_getElem? hwx)))
      tb_start
      refine hg _ _ _ _ _ w0 w1 fun t2 f2 => ?_
      refine ⟨b1.trans f2, ?_⟩
      rw [List.take_add_one, hwx]
      simp
    · rintro ys t' ⟨b1, rfl⟩
      rw [List.length_map, List.take_of_length_le (Nat.le_refl _)]
      refine r_new ?_
      intro t2 jx hjx hnx hf2
      have hl8 : (((chunk vs i).map hexS).map (·.length)).sum = 8 * (chunk vs i).length := sum_hexS _
      refine r_join (rowS_box hjx) (by rw [hl8, List.length_map]; have : (((" " : String) : Str)).length = 1 := by rw [TL.len_tl, tl_sp]; rfl
                                       rw [this]; omega) ?_
      have a1' : At t2 jr (.lst (((List.range i).map fun i => rowT (chunk vs i)).map D.str)) := (((a1.fr0 hf1).fr0 b1).fr0 hf2)
      kbo_bools
      refine r_app a1' (by simp; omega) ?_
      intro t3 h3 f3
      refine ⟨(), ⟨rfl, rfl, trivial⟩, ?_, ?_⟩
      · rw [List.range_succ, List.map_append, List.map_append]
        exact h3
      · exact (((a2.trans hf1.up).trans b1.up).trans hf2.up).trans f3
  · rintro ⟨⟩ f t ⟨a1, a2⟩
    tb_start
    refine r_join (rowS_box a1) ?_ ?_
    · have h2 := sum_le (l := ((List.range ((vs.length + 7) / 8)).map fun i => rowT (chunk vs i)).map (·.length)) (b := 72) fun x hx => by
        obtain ⟨y, hy, rfl⟩ := List.mem_map.1 hx
        obtain ⟨i, _, rfl⟩ := List.mem_map.1 hy
        exact rowT_len (chunk_len vs i)
      have : ((("\n" : String) : Str)).length = 1 := by rw [TL.len_tl, tl_nl]; rfl
      simp only [List.length_map, List.length_range] at h2 ⊢
      rw [this]
      omega
    · exact k _ (by top_name)
theorem w_code_text {j : Nat} {vs : List Int} (hj : At s j (.lst (vs.map D.int))) (hw : W32 vs) (hl : vs.length ≤ 1000) (k : ∀ t, Fr [] s t → Q (.str (codeT vs)) t) : wp (g_code_text [.box j]) s Q E u :=
  u_code_text (w_rowsC (g := g_word_text) (fun w s Q E u h0 h1 k => w_word_text h0 h1 k) hj hw hl k)
theorem w_written {j : Nat} {vs : List Int} (hj : At s j (.lst (vs.map D.int))) (hw : W32 vs) (hl : vs.length ≤ 1000) (k : ∀ t, Fr [] s t → Q (.str (codeT vs)) t) : wp (g_law_written [.box j]) s Q E u :=
  u_law_written (w_rowsC (g := g_law_signs) (fun w s Q E u h0 h1 k => w_signs h0 h1 (k _ Fr.refl)) hj hw hl k)
/-! ### read -/
theorem tl_hx : tl (("0123456789abcdef" : String) : Str) = [48, 49, 50, 51, 52, 53, 54, 55, 56, 57, 97, 98, 99, 100, 101, 102] := by
  rw [show ((("0123456789abcdef" : String) : Str)) = Str.ofString "0123456789abcdef" from rfl, TL.tl_ofString]
  rfl
theorem mem_hx {c : Nat} : c ∈ ((("0123456789abcdef" : String) : Str)).cps.toList ↔ inH c = true := by
  show c ∈ tl _ ↔ _
  rw [tl_hx]
  unfold inH
  simp
  omega
theorem chars_mk (l : List Nat) : chars ⟨l.toArray⟩ = l.map fun c => D.str ⟨#[c]⟩ := rfl
theorem rowOf_mk {l : List Nat} (hl : l.length ≤ 1000000) : rowOf s (.str ⟨l.toArray⟩) = some (l.map fun c => D.str ⟨#[c]⟩) := by
  have bg := big_eq
  show (if (⟨l.toArray⟩ : Str).length ≤ big then some (chars ⟨l.toArray⟩) else none) = _
  rw [if_pos (by show l.toArray.size ≤ big; rw [List.size_toArray]; omega), chars_mk]
theorem w_is_word {l : List Nat} (hl : l.length ≤ 1000000) (k : Q (.bl (isWd l)) s) : wp (g_is_word_1 [.str ⟨l.toArray⟩]) s Q E u := by
  refine u_is_word_1 ?_
  unfold c_is_word_1
  tb_start
  refine gd_i ⟨_, rowOf_mk hl⟩ ?_
  refine wfor_i (σ := Unit) (l.map fun c => D.str ⟨#[c]⟩) (fun i _ => [some (.str ⟨l.toArray⟩), none]) (fun i _ t => t = s ∧ (l.take i).all inH = true) () (rowOf_mk (s := s) hl) ⟨rfl, trivial⟩ ⟨rfl, by simp⟩ (fun _ _ t' _ => rowOf_mk (s := t') hl) ?_ ?_
  · rintro i x ⟨⟩ f t hx ⟨rfl, a2⟩
    rw [List.getElem?_map] at hx
    obtain ⟨c, hc, rfl⟩ := Option.map_eq_some_iff.1 hx
    tb_start
    refine r_inS (c := c) rfl ?_
    kbo_bools
    refine sel_i (fun h => ?_) (fun h => ?_)
    · have h' : inH c = true := mem_hx.1 (by simpa using h)
      tb_start
      refine ⟨(), ⟨rfl, trivial⟩, rfl, ?_⟩
      rw [List.take_add_one, hc, List.all_append, a2]
      simpa using h'
    · have h' : inH c = false := by
        cases e : inH c with
        | false => rfl
        | true => exact absurd (mem_hx.2 e) (by simpa using h)
      have : isWd l = false := by
        have hm := List.mem_of_getElem? hc
        unfold isWd
        cases e : l.all inH with
        | false => rfl
        | true => rw [List.all_eq_true.1 e c hm] at h'; cases h'
      rw [this] at k
      kbo_bools
      exact k
  · rintro ⟨⟩ f t ⟨rfl, a2⟩
    rw [List.length_map, List.take_of_length_le (Nat.le_refl _)] at a2
    have el : (⟨l.toArray⟩ : Str).length = l.length := by show l.toArray.size = _; simp
    kbo_bools
    refine gd_i (by omega) ?_
    kbo_bools
    rw [el]
    have e : isWd l = decide ((l.length : Int) = 8) := by
      unfold isWd
      rw [a2, Bool.true_and]
      exact decide_eq_decide.2 (by omega)
    rw [e] at k
    exact k
theorem hv_lt {c : Nat} (h : inH c = true) : hv c < 16 := by
  unfold inH at h
  unfold hv
  simp at h
  split <;> omega
theorem idx_hx {c : Nat} (h : inH c = true) : ∃ r, Builtin.Str.occurrences (("0123456789abcdef" : String) : Str) ⟨#[c]⟩ 0 ((("0123456789abcdef" : String) : Str)).length 1 = hv c :: r := by
  have h : c = 48 ∨ c = 49 ∨ c = 50 ∨ c = 51 ∨ c = 52 ∨ c = 53 ∨ c = 54 ∨ c = 55 ∨ c = 56 ∨ c = 57 ∨ c = 97 ∨ c = 98 ∨ c = 99 ∨ c = 100 ∨ c = 101 ∨ c = 102 := by
    unfold inH at h
    simp at h
    omega
  rcases h with rfl | rfl | rfl | rfl | rfl | rfl | rfl | rfl | rfl | rfl | rfl | rfl | rfl | rfl | rfl | rfl <;> exact ⟨[], by decide +kernel⟩
theorem val_lt : ∀ {l : List Nat} {a b : Nat}, l.all inH = true → a < b → l.foldl (fun a c => a * 16 + hv c) a < b * 16 ^ l.length
  | [], a, b, _, h => by simpa using h
  | c :: l, a, b, hl, h => by
    simp only [List.all_cons, Bool.and_eq_true] at hl
    have h1 := hv_lt hl.1
    have := val_lt (a := a * 16 + hv c) (b := b * 16) hl.2 (by omega)
    rw [List.foldl_cons, List.length_cons, Nat.pow_succ]
    rw [Nat.mul_assoc, Nat.mul_comm 16] at this
    exact this
end


set_option Elab.async false
set_option linter.all false
set_option maxRecDepth 100000
set_option maxHeartbeats 4000000
/-! texts: words read, walked -/
open PySem L2 G TL
section
variable {s : Sto} {E : XP}
/-- a piece: what is done with it; bad: what is done where it is no word -/
noncomputable def pieceC (tw : CT) (bad : CS) : CS := sIf (tE (cBin dNe (cV 4) (cK (.str "")))) (sSeq (sIf tw bad (sNil)) (sSeq (sSet 5 (cK (.int 0))) (sSeq (sFor (iSeq (cV 4)) (.v 6) (sSet 5 (cBin dAdd (cBin dMul (cV 5) (cK (.int 16))) (cM1 dIdxS (cK (.str "0123456789abcdef")) (cV 6))))) (sDrop (cBmL dApp (cV 1) (aCons (cV 5) (aNil))))))) (sNil)
noncomputable def readC (tw : CT) (bad : CS) : CS := sSeq (sSet 1 (cLst (aNil))) (sSeq (sFor (iEnum 1 (cM1 dSplit (cV 0) (cK (.str "\n")))) (.t [2, 3]) (sFor (iSeq (cM1 dSplit (cV 3) (cK (.str " ")))) (.v 4) (pieceC tw bad))) (sRet (cV 1)))
theorem readC_1 : c_read_code = readC (tNot' (tE (cCall g_is_word_1 (aCons (cV 4) (aNil))))) sNever := rfl
theorem readC_2 : c_read_code_r = readC (tNot' (tE (cCalm g_is_word_1 (aCons (cV 4) (aNil))))) (sRaise "NoText" ["line"] (aCons (cV 2) (aNil))) := rfl
abbrev mkS (l : List Nat) : Str := ⟨l.toArray⟩
theorem mkS_len (l : List Nat) : (mkS l).length = l.length := by show l.toArray.size = _; simp
theorem mkS_emp {l : List Nat} : mkS l = (("" : String) : Str) ↔ l = [] := by
  constructor
  · intro h
    have := congrArg tl h
    rw [tl_emp] at this
    exact this
  · rintro rfl
    exact TL.ext_tl tl_emp.symm
theorem w_piece {tw : CT} {bad : CS} (htw : ∀ (l : List Nat) (x0 x1 x2 x3 x5 x6 : Option D) (t : Sto) (Q : Bool → Sto → Prop) (u : Lk2 Q E), l.length ≤ 1000000 → Q (!isWd l) t → wp (tw [x0, x1, x2, x3, some (.str (mkS l)), x5, x6]) t Q E u)
    {jc : Nat} {k : Int} {vs : List Int} {l : List Nat} {x0 x3 x5 x6 : Option D} {N B C : En → Sto → Prop} {Rt : D → Sto → Prop} {v : Lk5 N Rt B C E} (hj : At s jc (.lst (vs.map D.int))) (hl : l.length ≤ 100000) (hv : vs.length ≤ 500000)
    (hok : ∀ w x0 x3 x4 x5 x6 t, endp k vs l = .ok w → At t jc (.lst (w.map D.int)) → Fr [jc] s t → N [x0, some (.box jc), some (.int k), x3, x4, x5, x6] t)
    (hbad : endp k vs l = .error k → ∀ N Rt B C v, ws bad [x0, some (.box jc), some (.int k), x3, some (.str (mkS l)), x5, x6] s N Rt B C E v) : ws (pieceC tw bad) [x0, some (.box jc), some (.int k), x3, some (.str (mkS l)), x5, x6] s N Rt B C E v := by
  unfold pieceC
  kbo_bools
  refine sel_i (fun h0 => ?_) (fun h0 => ?_)
  · have he : l = [] := mkS_emp.1 (by simpa using h0)
    kbo_bools
    exact hok _ _ _ _ _ _ _ (by unfold endp; rw [if_pos he]) hj Fr.refl
  · have hne : l ≠ [] := fun e => by rw [e] at h0; exact absurd (mkS_emp.2 rfl) (by simpa using h0)
    kbo_bools
    refine htw l _ _ _ _ _ _ _ _ _ (by omega) ?_
    kbo_bools
    cases hw : isWd l with
    | false =>
      kbo_bools
      exact hbad (by unfold endp; rw [if_neg hne, hw]; rfl) _ _ _ _ _
    | true =>
      have hall : l.all inH = true := by unfold isWd at hw; simp only [Bool.and_eq_true] at hw; exact hw.1
      have hl8 : l.length = 8 := by unfold isWd at hw; simp only [Bool.and_eq_true, decide_eq_true_eq] at hw; exact hw.2
      tb_start
      refine gd_i ⟨_, rowOf_mk (by omega)⟩ ?_
      refine wfor_i (σ := Unit) (l.map fun c => D.str ⟨#[c]⟩) (fun i _ => [none, some (.box jc), some (.int k), none, some (.str (mkS l)), some (.int ((val (l.take i) : Nat) : Int)), none]) (fun i _ t => t = s) () (rowOf_mk (s := s) (by omega)) ⟨rfl, rfl, rfl, rfl, trivial⟩ rfl (fun _ _ t' _ => rowOf_mk (s := t') (by omega)) ?_ ?_
      · rintro i x ⟨⟩ f t hx rfl
        rw [List.getElem?_map] at hx
        have hx' := Option.map_eq_some_iff.1 hx
        with_reducible obtain ⟨c, hc, ex⟩ := hx'
        subst ex
        have hin : inH c = true := List.all_eq_true.1 hall c (List.mem_of_getElem? hc)
        have hlt : val (l.take i) < 16 ^ 8 := by
          have h1 := val_lt (l := l.take i) (a := 0) (b := 1) (by rw [List.all_eq_true] at hall ⊢; exact fun x hx => hall x (List.mem_of_mem_take hx)) (by decide)
          have h2 : (l.take i).length ≤ 8 := by rw [List.length_take]; omega
          have h3 : 16 ^ (l.take i).length ≤ 16 ^ 8 := Nat.pow_le_pow_right (by decide) h2
          unfold val
          omega
        have hr' := idx_hx hin
        with_reducible obtain ⟨r, hr⟩ := hr'
        kbo_bools
        refine gd_i (by unfold mulOk; omega) ?_
        kbo_bools
        refine r_idxS hr ?_
        kbo_bools
        refine ⟨(), ⟨rfl, rfl, rfl, ?_, trivial⟩, rfl⟩
        rw [List.take_add_one, hc]
        simp [val, List.foldl_append]
      · rintro ⟨⟩ f t rfl
        rw [List.length_map, List.take_of_length_le (Nat.le_refl _)]
        tb_start
        refine r_app hj (by simp; omega) ?_
        intro t2 h2 f2
        refine hok _ _ _ _ _ _ _ (by unfold endp; rw [if_neg hne, if_pos hw]) ?_ f2
        rw [List.map_append]
        exact h2
def cw (ps : List (List Nat)) : Nat := (ps.map fun p => p.length + 1).sum
theorem cut_sum (c : Nat) : ∀ (l acc : List Nat), cw (cutA c acc l) = acc.length + l.length + 1
  | [], acc => by simp [cutA, cw]
  | x :: l, acc => by
    by_cases h : x = c
    · have := cut_sum c l []
      simp only [cutA, if_pos h, cw, List.map_cons, List.sum_cons, List.length_cons, List.length_nil] at this ⊢
      omega
    · have := cut_sum c l (acc ++ [x])
      simp only [cutA, if_neg h, List.length_append, List.length_cons, List.length_nil] at this ⊢
      omega
theorem cw_drop {ps : List (List Nat)} {i : Nat} {p : List Nat} (h : ps[i]? = some p) : cw (ps.drop i) = p.length + 1 + cw (ps.drop (i + 1)) := by
  obtain ⟨hi, rfl⟩ := List.getElem?_eq_some_iff.1 h
  unfold cw
  rw [List.drop_eq_getElem_cons hi, List.map_cons, List.sum_cons]
theorem split_nl {l : List Nat} : (Txt.split (mkS l) (("\n" : String) : Str)).map D.str = (cutA 10 [] l).map fun p => D.str (mkS p) := by
  rw [split_cut tl_nl (by decide), List.map_map]
  rfl
theorem split_sp {l : List Nat} : (Txt.split (mkS l) ((" " : String) : Str)).map D.str = (cutA 32 [] l).map fun p => D.str (mkS p) := by
  rw [split_cut tl_sp (by decide), List.map_map]
  rfl
theorem w_readC {tw : CT} {bad : CS} (htw : ∀ (l : List Nat) (x0 x1 x2 x3 x5 x6 : Option D) (t : Sto) (Q : Bool → Sto → Prop) (u : Lk2 Q E), l.length ≤ 1000000 → Q (!isWd l) t → wp (tw [x0, x1, x2, x3, some (.str (mkS l)), x5, x6]) t Q E u)
    {L : List Nat} {R : Rd} (hL : L.length ≤ 90000) (hR : rdS 1 [] [] L = R) {N B C : En → Sto → Prop} {Rt : D → Sto → Prop} {v : Lk5 N Rt B C E}
    (hok : ∀ vs t j, R = .ok vs → At t j (.lst (vs.map D.int)) → Nw s j → Fr [] s t → Rt (.box j) t)
    (hbad : ∀ k, R = .error k → ∀ x0 x1 x3 x4 x5 x6 t, Fr [] s t → ∀ N Rt B C v, ws bad [x0, x1, some (.int k), x3, x4, x5, x6] t N Rt B C E v) :
    ws (readC tw bad) [some (.str (mkS L)), none, none, none, none, none, none] s N Rt B C E v := by
  have bg := big_eq
  unfold readC
  tb_start
  rename_i t0 jc hjc hnc hf0
  refine r_split (by decide +kernel) (by rw [mkS_len]; omega) ?_
  rw [split_nl]
  refine r_new ?_
  intro t1 jr hjr hnr hf1
  kbo_bools
  refine gd_i ⟨_, lAt_at hjr⟩ ?_
  generalize hrows : cutA 10 [] L = rows at hjr
  have hR' : rowsF 1 [] rows = R := by rw [← hrows, rd_rows L [] 1 [] (by simp)]; exact hR
  have hcw : cw rows = L.length + 1 := by rw [← hrows, cut_sum]; simp
  have items : ∀ t, At t jr (.lst (rows.map fun p => D.str (mkS p))) → Src.items t (.enum 1 (.box jr)) = some (enumD 1 (rows.map fun p => D.str (mkS p))) := fun t h => by
    show (match rowOf t (.box jr) with | some xs => some (enumD 1 xs) | none => none) = _
    rw [show rowOf t (.box jr) = some (rows.map fun p => D.str (mkS p)) from lAt_at h]
  refine wfor_i (σ := List Int) (enumD 1 (rows.map fun p => D.str (mkS p))) (fun _ _ => [none, some (.box jc), none, none, none, none, none])
    (fun i vs t => At t jc (.lst (vs.map D.int)) ∧ At t jr (.lst (rows.map fun p => D.str (mkS p))) ∧ Fr [] s t ∧ rowsF (1 + (i : Int)) vs (rows.drop i) = R ∧ vs.length + cw (rows.drop i) ≤ 90001) []
    (items _ hjr) ⟨rfl, trivial⟩ ⟨hjc.fr0 hf1, hjr, by top_name, by simpa using hR', by simp [hcw]; omega⟩ (fun _ _ t h => items t h.2.1) ?_ ?_
  · rintro i x vs f t hx ⟨a1, a2, a3, a4, a5⟩
    obtain ⟨y, hy, rfl⟩ := enumD_inv hx
    rw [List.getElem?_map] at hy
    obtain ⟨row, hrow, rfl⟩ := Option.map_eq_some_iff.mp hy
    have hil : i < rows.length := (List.getElem?_eq_some_iff.mp hrow).1
    have hdrop : rows.drop i = row :: rows.drop (i + 1) := by
      obtain ⟨h1, rfl⟩ := List.getElem?_eq_some_iff.1 hrow
      exact List.drop_eq_getElem_cons h1
    have hcd := cw_drop hrow
    rw [hdrop] at a4
    have a4 : thnE (rowF (1 + (i : Int)) vs (cutA 32 [] row)) (fun w => rowsF (1 + (i : Int) + 1) w (rows.drop (i + 1))) = R := a4
    kbo_bools
    refine ws_for ?_
    kbo_bools
    refine r_split (by decide +kernel) (by rw [mkS_len]; omega) ?_
    rw [split_sp]
    refine r_new ?_
    intro t2 jp hjp hnp hf2
    have hjt := a1.lt
    have a1 := a1.fr0 hf2
    have a2 := a2.fr0 hf2
    kbo_bools
    generalize hps : cutA 32 [] row = ps at hjp a4
    have hcp : cw ps = row.length + 1 := by rw [← hps, cut_sum]; simp
    refine gd_i ⟨_, lAt_at hjp⟩ ?_
    refine wfor_b (σ := List Int) hjp (fun _ _ => [none, some (.box jc), some (.int (1 + (i : Int))), none, none, none, none])
      (fun m ws t => At t jc (.lst (ws.map D.int)) ∧ At t jp (.lst (ps.map fun p => D.str (mkS p))) ∧ At t jr (.lst (rows.map fun p => D.str (mkS p))) ∧ Fr [] s t ∧ thnE (rowF (1 + (i : Int)) ws (ps.drop m)) (fun w => rowsF (1 + (i : Int) + 1) w (rows.drop (i + 1))) = R ∧ ws.length + cw (ps.drop m) + cw (rows.drop (i + 1)) ≤ 90001) vs
      ?_ ⟨a1, hjp, a2, a3.trans hf2, by simpa using a4, by simp [hcp]; omega⟩ (fun _ _ t h => h.2.1) ?_ ?_
    · exact ⟨rfl, rfl, trivial⟩
    · rintro m x ws f' t' hx ⟨b1, b2, b3, b4, b5, b6⟩
      rw [List.getElem?_map] at hx
      obtain ⟨p, hp, rfl⟩ := Option.map_eq_some_iff.mp hx
      have hdp : ps.drop m = p :: ps.drop (m + 1) := by
        obtain ⟨h1, rfl⟩ := List.getElem?_eq_some_iff.1 hp
        exact List.drop_eq_getElem_cons h1
      have hcd2 := cw_drop hp
      rw [hdp] at b5
      have b5 : thnE (thnE (endp (1 + (i : Int)) ws p) fun w => rowF (1 + (i : Int)) w (ps.drop (m + 1))) (fun w => rowsF (1 + (i : Int) + 1) w (rows.drop (i + 1))) = R := b5
      kbo_bools
      refine w_piece htw b1 (by omega) (by omega) ?_ ?_
      · intro w x0 x3 x4 x5 x6 t3 he h3 f3
        rw [he] at b5
        have hne : jp ≠ jc := (hnp.ne hjt).symm
        have hnr : jr ≠ jc := (hnr.ne (hjc.lt)).symm
        refine dn_i ⟨w, ⟨rfl, rfl, trivial⟩, h3, b2.fr1 f3 hne, b3.fr1 f3 hnr, ?_, b5, ?_⟩
        · exact Fr.new b4 hnc f3
        · have : w.length ≤ ws.length + 1 := by
            unfold endp at he
            split at he
            · cases he; omega
            · split at he
              · cases he; simp
              · cases he
          omega
      · intro he N Rt B C v
        rw [he] at b5
        exact hbad _ b5.symm _ _ _ _ _ _ _ b4 _ _ _ _ _
    · rintro ws f' t' ⟨b1, b2, b3, b4, b5, b6⟩
      rw [List.length_map, List.drop_length] at b5 b6
      kbo_bools
      exact dn_i ⟨ws, ⟨rfl, trivial⟩, b1, b3, b4, b5, by simp only [cw, List.map_nil, List.sum_nil] at b6; unfold cw; omega⟩
  · rintro vs f t ⟨a1, a2, a3, a4, a5⟩
    rw [enumD_len, List.length_map, List.drop_length] at a4
    kbo_bools
    exact hok vs t jc a4.symm a1 hnc a3
end


set_option Elab.async false
set_option linter.all false
set_option maxRecDepth 100000
set_option maxHeartbeats 4000000
/-! texts: how often a sign stands in one; pieces cut out; pieces that are none -/
open PySem L2 G TL
theorem cutA_len (s : Nat) : ∀ l acc : List Nat, (cutA s acc l).length = l.count s + 1
  | [], acc => rfl
  | c :: r, acc => by
    by_cases h : c = s
    · subst h
      simp [cutA, cutA_len c r []]
    · simp [cutA, h, cutA_len s r (acc ++ [c])]
theorem partsFrom_len (x : Str) (w : Nat) : ∀ (cuts : List Nat) (a : Nat), (PySem.StrLaws.partsFrom x w a cuts).length = cuts.length + 1
  | [], _ => rfl
  | c :: r, a => by
    show (PySem.StrLaws.partsFrom x w (c + w) r).length + 1 = _
    rw [partsFrom_len x w r]
    rfl
theorem count_nl (l : List Nat) : Txt.count (mkS l) (("\n" : String) : Str) = ((l.count 10 : Nat) : Int) := by
  have hy : tl (("\n" : String) : Str) ≠ [] := by rw [tl_nl]; simp
  obtain ⟨f, g, hn⟩ := PySem.StrLaws.occ_tight (mkS l) (("\n" : String) : Str) (len1 hy)
  have key := parts_spl hy _ 0 f (Nat.zero_le _) g hn
  have h := congrArg List.length key
  rw [List.length_map, partsFrom_len, List.drop_zero, tl_nl, spl_one, cutA_len] at h
  show ((_ : Nat) : Int) = _
  have h : _ = List.count 10 (tl (mkS l)) := Nat.succ.inj h
  rw [h]
theorem cut_lo {l : List Nat} {a : Int} (ha : 0 ≤ a) : cutS (mkS l) (some a) none = mkS (l.drop a.toNat) := by
  have e : (mkS l).length = l.length := mkS_len l
  unfold cutS
  rw [e, sIx_nn ha]
  show mkS ((l.drop (min a.toNat l.length)).take (HT.sIx l.length l.length none - min a.toNat l.length)) = _
  rw [show HT.sIx l.length l.length none = l.length from rfl]
  congr 2
  rcases Nat.le_total a.toNat l.length with c | c
  · rw [Nat.min_eq_left c, List.take_of_length_le (by rw [List.length_drop]; omega)]
  · rw [Nat.min_eq_right c, List.drop_of_length_le (Nat.le_refl _), List.drop_of_length_le c, List.take_nil]
theorem cut_hi {l : List Nat} {a : Int} (ha : 0 ≤ a) : cutS (mkS l) none (some a) = mkS (l.take a.toNat) := by
  have e : (mkS l).length = l.length := mkS_len l
  unfold cutS
  rw [e, sIx_nn ha]
  show mkS ((l.drop (HT.sIx l.length 0 none)).take (min a.toNat l.length - HT.sIx l.length 0 none)) = _
  rw [show HT.sIx l.length 0 none = 0 from rfl]
  rw [List.drop_zero, Nat.sub_zero]
  rcases Nat.le_total a.toNat l.length with c | c
  · rw [Nat.min_eq_left c]
  · rw [Nat.min_eq_right c, List.take_of_length_le (Nat.le_refl _), List.take_of_length_le c]
theorem mk_app (l m : List Nat) : mkS l ++ mkS m = mkS (l ++ m) := str_app l m
theorem of_str (s : String) : ((s : Str)) = mkS (s.toList.map Char.toNat) := ext_tl (tl_ofString s)
/-- a piece that is no word: its first part, up to a blank -/
def BadP (l : List Nat) : Prop := ∃ p r, l = p ++ r ∧ (r = [] ∨ ∃ r', r = 32 :: r') ∧ p ≠ [] ∧ isWd p = false ∧ (∀ c ∈ p, c ≠ 10 ∧ c ≠ 32) ∧ l.length ≤ 40
theorem bad_len {p : List Nat} (h : p.length ≠ 8) : isWd p = false := by
  unfold isWd
  rw [decide_eq_false h, Bool.and_false]
theorem bad_in {p : List Nat} {c : Nat} (hc : c ∈ p) (h : inH c = false) : isWd p = false := by
  unfold isWd
  cases e : p.all inH with
  | false => rfl
  | true =>
    rw [List.all_eq_true.1 e c hc] at h
    cases h
theorem bad_one {p : List Nat} (h0 : p ≠ []) (h : isWd p = false) (hn : ∀ c ∈ p, c ≠ 10 ∧ c ≠ 32) (hl : p.length ≤ 40) : BadP p := ⟨p, [], by simp, .inl rfl, h0, h, hn, hl⟩
def NB (l : List Nat) : Prop := ∀ c ∈ l, c ≠ 10 ∧ c ≠ 32
theorem NB.app {l m : List Nat} (h : NB l) (h' : NB m) : NB (l ++ m) := fun c hc => (List.mem_append.1 hc).elim (h c) (h' c)
theorem NB.drop {l : List Nat} (h : NB l) (n : Nat) : NB (l.drop n) := fun c hc => h c (List.mem_of_mem_drop hc)
theorem NB.take {l : List Nat} (h : NB l) (n : Nat) : NB (l.take n) := fun c hc => h c (List.mem_of_mem_take hc)
theorem NB.rev {l : List Nat} (h : NB l) : NB l.reverse := fun c hc => h c (List.mem_reverse.1 hc)
theorem bp_mid {h : List Nat} {a b : Nat} {c : Nat} (hl : h.length = 8) (hn : NB h) (hc : inH c = false) (hc' : c ≠ 10 ∧ c ≠ 32) : BadP (h.take a ++ [c] ++ h.drop b) := by
  refine bad_one (by simp) (bad_in (c := c) (by simp) hc) (((hn.take a).app fun x hx => ?_).app (hn.drop b)) ?_
  · rw [List.mem_singleton.1 hx]; exact hc'
  · simp only [List.length_append, List.length_take, List.length_drop, List.length_cons, List.length_nil]
    omega
section
variable {s : Sto} {Q : D → Sto → Prop} {E : XP} {u : Lk2 Q E}
theorem lapp {x y : Str} {n m : Nat} (hx : x.length ≤ n) (hy : y.length ≤ m) : (x ++ y).length ≤ n + m := by
  rw [len_tl, tl_append, List.length_append, ← len_tl, ← len_tl]
  omega
theorem lcut {w : Int} {lo hi : Option Int} : (cutS (hexS w) lo hi).length ≤ 8 := cutS_length _ _ _
theorem lrev {w : Int} : (revS (hexS w)).length ≤ 8 := by
  show ((hexS w).cps.toList.reverse.toArray).size ≤ 8
  rw [List.size_toArray, List.length_reverse]
  exact Nat.le_refl 8
theorem lhex {w : Int} : (hexS w).length ≤ 8 := Nat.le_refl 8
theorem hbig {w : Int} : (hexS w).length ≤ big := by
  have := big_eq
  have := lhex (w := w)
  omega
theorem gl2 {x y : Str} {A : Prop} {u1 : Lk1 A} {n m : Nat} (hx : x.length ≤ n) (hy : y.length ≤ m) (h : n + m ≤ 1000000) (k : A) : gd (x.length + y.length ≤ 1000000) A u1 := gd_i (by omega) k
local macro_rules | `(tactic| tb_rel) => `(tactic| first
  | (with_reducible refine r_slS hbig ?_)
  | (with_reducible refine r_revS hbig ?_)
  | ((with_reducible apply gl2); (iterate 2 (focus repeat (first | with_reducible exact lcut | with_reducible exact lrev | with_reducible exact lhex | with_reducible apply lapp | with_reducible exact Nat.le_refl _))); (focus decide +kernel)))
theorem w_bad_piece {j : Nat} (h : Deal3 s j) (k : ∀ l t, BadP l → Deal3 t j → Fr [j] s t → Q (.str (mkS l)) t) : wp (g_law_piece [.box j]) s Q E u := by
  refine u_law_piece ?_
  unfold c_law_piece
  have bg := big_eq
  tb_start
  rename_i w t1 w0 w1 d1 f1
  refine w_signs w0 (by omega) ?_
  tb_start
  rename_i a ta a0 a1 da fa tb jb hjb nb fb tc jc hjc nc fc
  refine r_addL (by k_upd) (by k_upd) (by simp) ?_
  tb_start
  rename_i td jd hjd nd fd te je hje ne fe
  refine r_addL (by k_upd) (by k_upd) (by simp) ?_
  tb_start
  rename_i tf jf hjf nf ff tg jg hjg ng fg
  refine r_addL (by k_upd) (by k_upd) (by simp) ?_
  tb_start
  rename_i th jh hjh nh fh r ti r0 r1 di fi
  refine atK_all r0 (by simp; omega) fun x hx => ?_
  have fin : Fr [j] s ti := by top_name
  have hl : (hexL w.toNat).length = 8 := rfl
  have hn : NB (hexL w.toNat) := fun c hc => hexL_no hc
  have e : hexS w = mkS (hexL w.toNat) := rfl
  rw [e] at hx
  have er : revS (mkS (hexL w.toNat)) = mkS (hexL w.toNat).reverse := rfl
  rw [er] at hx
  generalize hexL w.toNat = h8 at hx hl hn
  have kk : ∀ z l, x = D.str z → z = mkS l → BadP l → Q x ti := fun z l e1 e2 b => by
    rw [e1, e2]
    exact k l ti b di fin
  simp only [List.mem_append, List.mem_cons, List.not_mem_nil, or_false, or_assoc] at hx
  have b1 : 0 ≤ a % 6 + 1 := by omega
  have b2 : 0 ≤ a % 6 + 2 := by omega
  have b3 : 0 ≤ a + 1 := by omega
  have b4 : 0 ≤ a % 7 + 1 := by omega
  rcases hx with hx | hx | hx | hx | hx | hx | hx | hx | hx | hx | hx | hx | hx
  · refine kk _ ([43] ++ h8.drop 1) hx (by rw [cut_lo (by decide), of_str, mk_app]; rfl) (bad_one (by simp) (bad_in (c := 43) (by simp) (by decide)) (NB.app (by unfold NB; decide) (hn.drop _)) (by simp; omega))
  · refine kk _ (h8.take (a % 6 + 1).toNat ++ [95] ++ h8.drop (a % 6 + 2).toNat) hx (by rw [cut_lo b2, cut_hi b1, of_str, mk_app, mk_app]; rfl) (bp_mid hl hn (by decide) (by decide))
  · refine kk _ (h8.drop 1) hx (by rw [cut_lo (by decide)]; rfl) (bad_one (fun z => by have := congrArg List.length z; simp [hl] at this) (bad_len (by simp [hl])) (hn.drop _) (by simp; omega))
  · refine kk _ (h8 ++ [48]) hx (by rw [of_str, mk_app]; rfl) (bad_one (by simp) (bad_len (by simp [hl])) (hn.app (by unfold NB; decide)) (by simp [hl]))
  · refine kk _ [120] hx (by rw [of_str]; rfl) (bad_one (by simp) (bad_len (by simp)) (by decide) (by simp))
  · refine kk _ ([48, 120] ++ h8) hx (by rw [of_str, mk_app]; rfl) (bad_one (by simp) (bad_len (by simp [hl])) (NB.app (by unfold NB; decide) hn) (by simp [hl]))
  · refine kk _ (h8.take a.toNat ++ [103] ++ h8.drop (a + 1).toNat) hx (by rw [cut_lo b3, cut_hi a0, of_str, mk_app, mk_app]; rfl) (bp_mid hl hn (by decide) (by decide))
  · refine kk _ (h8.take a.toNat ++ [65] ++ h8.drop (a + 1).toNat) hx (by rw [cut_lo b3, cut_hi a0, of_str, mk_app, mk_app]; rfl) (bp_mid hl hn (by decide) (by decide))
  · refine kk _ (h8.take a.toNat ++ [45] ++ h8.drop (a + 1).toNat) hx (by rw [cut_lo b3, cut_hi a0, of_str, mk_app, mk_app]; rfl) (bp_mid hl hn (by decide) (by decide))
  · refine kk _ (h8 ++ h8) hx (by rw [mk_app]) (bad_one (fun z => by have := congrArg List.length z; simp [hl] at this) (bad_len (by simp [hl])) (hn.app hn) (by simp [hl]))
  · refine kk _ (h8 ++ h8.reverse ++ h8) hx (by rw [mk_app, mk_app]) (bad_one (fun z => by have := congrArg List.length z; simp [hl] at this) (bad_len (by simp [hl])) ((hn.app hn.rev).app hn) (by simp [hl]))
  · refine kk _ (h8.take (a % 7 + 1).toNat ++ [32] ++ h8.drop (a % 7 + 1).toNat) hx (by rw [cut_lo b4, cut_hi b4, of_str, mk_app, mk_app]; rfl) ⟨h8.take (a % 7 + 1).toNat, 32 :: h8.drop (a % 7 + 1).toNat, by simp, .inr ⟨_, rfl⟩, fun z => ?_, bad_len ?_, hn.take _, ?_⟩
    · have := congrArg List.length z
      rw [List.length_take] at this
      simp only [List.length_nil] at this
      omega
    · rw [List.length_take]
      omega
    · simp only [List.length_append, List.length_take, List.length_drop, List.length_cons, List.length_nil]
      omega
  · refine kk _ (h8.drop 1 ++ [32, 48] ++ h8) hx (by rw [cut_lo (by decide), of_str, mk_app, mk_app]; rfl) ⟨h8.drop 1, 32 :: 48 :: h8, by simp, .inr ⟨_, rfl⟩, fun z => ?_, bad_len (by simp [hl]), hn.drop _, by simp [hl]⟩
    have := congrArg List.length z
    simp [hl] at this
end


set_option Elab.async false
set_option linter.all false
set_option maxRecDepth 100000
set_option maxHeartbeats 4000000
/-! texts: pieces put together loosely; refusals -/
open PySem L2 G TL
theorem RdsTo.blanks : ∀ {l : List Nat}, (∀ c ∈ l, c = 10 ∨ c = 32) → RdsTo l []
  | [], _ => RdsTo.nil
  | c :: l, h => RdsTo.app (ws := []) (vs := []) (RdsTo.bl (h c List.mem_cons_self)) (RdsTo.blanks fun x hx => h x (List.mem_cons_of_mem _ hx))
/-- words with blanks behind each -/
theorem RdsTo.wordB {w : Int} (h0 : 0 ≤ w) (h1 : w < 4294967296) {l : List Nat} (hl : ∀ c ∈ l, c = 10 ∨ c = 32) (hne : l ≠ []) : RdsTo (hexL w.toNat ++ l) [w] := by
  cases l with
  | nil => exact absurd rfl hne
  | cons c l =>
    have a := RdsTo.word (w := w.toNat) (c := c) (by omega) (hl c List.mem_cons_self)
    have b := RdsTo.app a (RdsTo.blanks fun x hx => hl x (List.mem_cons_of_mem _ hx))
    have e : ((w.toNat : Nat) : Int) = w := by omega
    rw [e] at b
    simpa using b
local macro_rules | `(tactic| tb_rel) => `(tactic| first
   | ((with_reducible apply r_isEy); (focus k_upd); (focus (simp; done)))
   | ((with_reducible apply r_isEn); (focus k_upd); (focus (simp; done)); (focus (simp; done)))
   | ((with_reducible apply r_xf); (focus k_upd); (focus (simp; done)); (focus rfl)))
section
variable {s : Sto} {Q : D → Sto → Prop} {E : XP} {u : Lk2 Q E}
theorem pick_str {ys : List D} {r : Int} {k : D → Prop} {u : Lk1 k} (h0 : 0 ≤ r) (h1 : r < ys.length) (P : List Nat → Prop) (hP : ∀ y ∈ ys, ∃ l, y = .str (mkS l) ∧ P l) (q : ∀ l, P l → k (.str (mkS l))) : atK ys r k u :=
  atK_all h0 h1 fun x hx => by
    obtain ⟨l, rfl, hl⟩ := hP x hx
    exact q l hl
def Bl (n : Nat) (l : List Nat) : Prop := (∀ c ∈ l, c = 10 ∨ c = 32) ∧ n ≤ l.length ∧ l.length ≤ 3
theorem bl_lit {x : String} {n : Nat} (h : (∀ c ∈ x.toList.map Char.toNat, c = 10 ∨ c = 32) ∧ n ≤ (x.toList.map Char.toNat).length ∧ (x.toList.map Char.toNat).length ≤ 3) : ∃ l, (D.str (x : Str)) = .str (mkS l) ∧ Bl n l := ⟨_, by rw [of_str], h⟩
theorem w_loose {ns : List Int} {j : Nat} {ws : List Int} (hj : At s j (.lst ((ws.map hexS).map D.str))) (hw : W32 ws) (hl : ws.length ≤ 1000) (k : ∀ L t, RdsTo L ws → L.length ≤ 3 + 11 * ws.length → Fr [] s t → Q (.str (mkS L)) t) : wp (g_law_loose_1 [.lst (ns.map D.int), .box j]) s Q E u := by
  refine u_law_loose_1 ?_
  unfold c_law_loose_1
  have bg := big_eq
  tb_start
  refine w_deal3 (by omega) (by omega) fun t1 j1 d1 n1 f1 => ?_
  tb_start
  rename_i r t2 r0 r1 d2 f2
  refine pick_str r0 (by simp; omega) (Bl 0) ?_ ?_
  · intro y hy
    simp only [List.mem_cons, List.not_mem_nil, or_false] at hy
    rcases hy with rfl | rfl | rfl | rfl <;> exact bl_lit (by decide)
  intro l0 hb0
  tb_start
  have g02 : Fr [] s t2 := by top_name
  refine wfor_r (σ := List Nat) (fun i l => [some (.lst (ns.map D.int)), some (.box j), some (.str (mkS l)), none, none]) (fun i l t => RdsTo l (ws.take i) ∧ l.length ≤ 3 + 11 * i ∧ Fr [] s t) l0 ⟨rfl, rfl, rfl, trivial⟩ ⟨RdsTo.blanks hb0.1, by have := hb0.2.2; omega, g02⟩ ?_ ?_
  · rintro i l f t hi ⟨a1, a2, a3⟩
    have hi : i < ws.length := by simpa using hi
    have hj' := hj.fr0 a3
    kbo_bools
    refine w_deal3 (by omega) (by omega) fun t3 j3 d3 n3 f3 => ?_
    have hj3 := hj'.fr0 f3
    kbo_bools
    refine r_ix2L hj3 (atK_i (v := .str (hexS ws[i])) ?_ ?_)
    · refine atI_nat ?_
      rw [List.getElem?_map, List.getElem?_map, List.getElem?_eq_getElem hi]
      rfl
    have hw' := hw ws[i] (List.getElem_mem hi)
    kbo_bools
    refine gd_i (by rw [mkS_len, hexS_len]; omega) ?_
    tb_start
    rename_i r t4 r0 r1 d4 f4
    refine pick_str r0 (by simp; omega) (Bl 1) ?_ ?_
    · intro y hy
      simp only [List.mem_cons, List.not_mem_nil, or_false] at hy
      rcases hy with rfl | rfl | rfl | rfl | rfl <;> exact bl_lit (by decide)
    intro l1 hb1
    rw [show hexS ws[i] = mkS (hexL (ws[i]).toNat) from rfl, mk_app]
    have hL : (hexL (ws[i]).toNat).length = 8 := rfl
    kbo_bools
    refine gd_i (by rw [mkS_len, mkS_len, List.length_append, hL]; have := hb1.2.2; omega) ?_
    rw [mk_app]
    kbo_bools
    refine ⟨l ++ hexL (ws[i]).toNat ++ l1, ⟨rfl, rfl, rfl, trivial⟩, ?_, ?_, ?_⟩
    · rw [List.take_add_one, List.getElem?_eq_getElem hi, List.append_assoc]
      exact a1.app (RdsTo.wordB hw'.1 hw'.2 hb1.1 fun z => by rw [z] at hb1; exact absurd hb1.2.1 (by simp))
    · rw [List.length_append, List.length_append, hL]
      have := hb1.2.2
      omega
    · exact Fr.new (a3.trans f3) (a3.nw n3) f4
  · rintro l f t ⟨a1, a2, a3⟩
    kbo_bools
    rw [List.take_of_length_le (by simp)] at a1
    exact k l t a1 (by simpa using a2) a3
theorem w_read_r {L : List Nat} {R : Rd} (hL : L.length ≤ 90000) (hR : rdS 1 [] [] L = R)
    (hok : ∀ vs t j, R = .ok vs → At t j (.lst (vs.map D.int)) → Nw s j → Fr [] s t → Q (.box j) t) (hbad : ∀ k t, R = .error k → Fr [] s t → exW E "NoText" [("line", .int k)] t) : wp (g_read_code_r [.str (mkS L)]) s Q E u := by
  refine u_read_code_r ?_
  rw [readC_2]
  refine w_readC (fun l x0 x1 x2 x3 x5 x6 t Q u hl k => ?_) hL hR hok ?_
  · tb_start
    exact w_is_word hl (by kbo_bools; exact k)
  · intro k hk x0 x1 x3 x4 x5 x6 t f N Rt B C v
    tb_start
    exact hbad k t hk f
theorem w_read {L : List Nat} {ws : List Int} (hL : L.length ≤ 90000) (hR : rdS 1 [] [] L = .ok ws)
    (hok : ∀ t j, At t j (.lst (ws.map D.int)) → Nw s j → Fr [] s t → Q (.box j) t) : wp (g_read_code [.str (mkS L)]) s Q E u := by
  refine u_read_code ?_
  rw [readC_1]
  refine w_readC (fun l x0 x1 x2 x3 x5 x6 t Q u hl k => ?_) hL hR (fun vs t j e h n f => ?_) ?_
  · tb_start
    exact w_is_word hl (by kbo_bools; exact k)
  · cases e
    exact hok t j h n f
  · intro k hk
    cases hk
theorem w_refused {L : List Nat} {k : Int} (hL : L.length ≤ 90000) (hR : rdS 1 [] [] L = .error k) (kk : ∀ t, Fr [] s t → Q (.int k) t) : wp (g_law_refused_1 [.str (mkS L)]) s Q E u := by
  refine u_law_refused_1 ?_
  unfold c_law_refused_1
  tb_start
  refine ws_tryA keep_drop ?_
  tb_start
  refine w_read_r hL hR (fun vs t j e => by cases e) fun k' t e f => ?_
  cases e
  unfold exW
  refine ⟨List.mem_singleton.mpr rfl, fun t' j hj nj fj => ?_⟩
  tb_start
  rename_i t2 j2 h2 n2 f2
  have hj2 := hj.fr0 f2
  refine r_in2L h2 ⟨rfl, rfl⟩ ?_
  tb_start
  rw [show eqD (D.bl false) (D.bl true) = false from rfl]
  tb_start
  exact kk _ ((f.trans fj).trans f2)
end


set_option Elab.async false
set_option linter.all false
set_option maxRecDepth 100000
set_option maxHeartbeats 4000000
/-! the law k14 -/
open PySem L2 G TL
section
variable {s : Sto} {Q : D → Sto → Prop} {E : XP} {u : Lk2 Q E}
theorem codeT_mk (ws : List Int) : codeT ws = mkS (codeL ws) := codeT_tl ws
theorem codeL_len (ws : List Int) : (codeL ws).length ≤ 73 * ((ws.length + 7) / 8) := by
  have h := codeT_len ws
  rw [codeT_mk, mkS_len] at h
  exact h
theorem bad_text {L p tail : List Nat} {ws : List Int} (h : RdsTo L ws) (hb : BadP p) : rdS 1 [] [] (L ++ p ++ 32 :: tail) = .error (1 + ((L.count 10 : Nat) : Int)) := by
  obtain ⟨q, r, rfl, hr, h0, h1, hn, _⟩ := hb
  rw [List.append_assoc, h]
  rcases hr with rfl | ⟨r', rfl⟩
  · rw [List.append_nil]
    exact rd_bad hn h0 h1
  · rw [List.append_assoc]
    exact rd_bad hn h0 h1
theorem W32.take {ws : List Int} (h : W32 ws) (n : Nat) : W32 (ws.take n) := fun w hw => h w (List.mem_of_mem_take hw)
theorem W32.drop {ws : List Int} (h : W32 ws) (n : Nat) : W32 (ws.drop n) := fun w hw => h w (List.mem_of_mem_drop hw)
theorem w_law14 {ns : List Int} (hn : ns.length ≤ 63) : wp (g_law_k14 [.lst (ns.map D.int)]) [] (fun d _ => d = .bl true) NX := by
  refine u_law_k14 ?_
  unfold c_law_k14
  have bg := big_eq
  tb_start
  refine u_law_many ?_
  unfold c_law_many
  tb_start
  generalize hm : max 1 (min 63 (ns.length : Int)) = m
  have m1 : 1 ≤ m ∧ m ≤ 63 := by omega
  refine r_lcN ?_
  tb_start
  refine wlc_r (fun i ys t => ∃ vs : List Int, ys = vs.map D.int ∧ W32 vs ∧ vs.length = i) (by omega) ⟨[], rfl, fun _ h => (List.not_mem_nil h).elim, rfl⟩ ?_ ?_
  · rintro i ys t1 hi ⟨vs, rfl, hv, rfl⟩
    tb_start
    refine w_deal3 (by omega) (by omega) fun t2 j2 d2 n2 f2 => ?_
    tb_start
    rename_i r t3 r0 r1 d3 f3
    refine dn_i ⟨vs ++ [r], by simp, ?_, by simp⟩
    intro w hw
    rcases List.mem_append.1 hw with h | h
    · exact hv w h
    · rw [List.mem_singleton.1 h]
      exact ⟨r0, r1⟩
  rintro ys t1 ⟨vs, rfl, hv, hl⟩
  refine r_new fun t2 jv hjv nv fv => ?_
  tb_start
  refine w_deal3 (by omega) (by omega) fun t3 j3 d3 n3 f3 => ?_
  tb_start
  rename_i r t4 r0 r1 d4 f4
  have hjv4 : At t4 jv (.lst (vs.map D.int)) := by k_upd
  refine sel_join (fun e' t => ∃ jc ws, Sl e' [some (.lst (ns.map D.int)), some (.int m), some (.box jc), some (.int r), none, none, none, none, none, none, none, none, none, none] ∧ At t jc (.lst (ws.map D.int)) ∧ W32 ws ∧ ws.length ≤ 63) (fun c => ?_) (fun c => ?_) ?_
  · tb_start
    rename_i t5 jc hjc nc fc
    exact dn_i ⟨jc, [], ⟨rfl, rfl, rfl, rfl, trivial⟩, hjc, fun _ h => (List.not_mem_nil h).elim, by simp⟩
  · tb_start
    exact dn_i ⟨jv, vs, ⟨rfl, rfl, rfl, rfl, trivial⟩, hjv4, hv, by omega⟩
  rintro e' t5 ⟨jc, ws, sl, hjc, hw, hwl⟩
  obtain ⟨f, rfl⟩ := Sl_fill 0 sl
  allgen_close2_more
  kbo_bools
  refine sel_join (fun e' t => ∃ jc ws, Sl e' [some (.lst (ns.map D.int)), some (.int m), some (.box jc), some (.int r), none, none, none, none, none, none, none, none, none, none] ∧ At t jc (.lst (ws.map D.int)) ∧ W32 ws ∧ ws.length ≤ 252) (fun c => ?_) (fun c => ?_) ?_
  · kbo_bools
    refine r_mulL hjc (by simp; omega) ?_
    refine r_new fun t6 jd hjd nd fd => ?_
    tb_start
    refine dn_i ⟨jd, (List.replicate 4 ws).flatten, ⟨rfl, rfl, rfl, rfl, trivial⟩, ?_, ?_, ?_⟩
    · have e : (List.replicate (4 : Int).toNat (ws.map D.int)).flatten = ((List.replicate 4 ws).flatten).map D.int := by simp [List.replicate]
      rw [e] at hjd
      exact hjd
    · intro w h
      simp only [List.mem_flatten, List.mem_replicate] at h
      obtain ⟨l, ⟨_, rfl⟩, h⟩ := h
      exact hw w h
    · simp [List.replicate]
      omega
  · kbo_bools
    exact dn_i ⟨jc, ws, ⟨rfl, rfl, rfl, rfl, trivial⟩, hjc, hw, by omega⟩
  clear hjv4 hjc hw hwl sl d4 f4
  clear jc ws t5 f
  rintro e' t5 ⟨jc, ws, sl, hjc, hw, hwl⟩
  obtain ⟨f, rfl⟩ := Sl_fill 0 sl
  allgen_close2_more
  kbo_bools
  refine r_lcN ?_
  kbo_bools
  refine gd_i ⟨_, lAt_at hjc⟩ ?_
  refine wlc_i (ws.map D.int) (fun i ys t => t = t5 ∧ ys = ((ws.take i).map hexS).map D.str) (lAt_at hjc) (by rw [List.length_map]; omega) ⟨rfl, rfl⟩ (fun _ _ t' q => by rw [q.1]; exact lAt_at hjc) ?_ ?_
  · rintro i x ys t' hx ⟨rfl, rfl⟩
    rw [List.getElem?_map] at hx
    obtain ⟨w, hwx, rfl⟩ := Option.map_eq_some_iff.1 hx
    obtain ⟨w0, w1⟩ := hw w (List.mem_of_getElem? hwx)
    tb_start
    refine w_signs w0 w1 ?_
    refine dn_i ⟨rfl, ?_⟩
    rw [List.take_add_one, hwx]
    simp
  rintro ys t' ⟨rfl, rfl⟩
  rw [List.length_map, List.take_of_length_le (Nat.le_refl _)]
  refine r_new fun t6 jp hjp np fp => ?_
  tb_start
  rename_i t7 jh hjh nh fh
  have hjc7 : At t7 jc (.lst (ws.map D.int)) := by k_upd
  refine w_code_text hjh hw (by omega) fun t8 f8 => ?_
  have hjc8 := hjc7.fr0 f8
  kbo_bools
  refine w_written hjc8 hw (by omega) fun t9 f9 => ?_
  have hjc9 := hjc8.fr0 f9
  kbo_bools
  have hjh9 := (hjh.fr0 f8).fr0 f9
  refine r_ne2L hjh9 ?_
  refine r_ne (eq_boxes hjh9 hjc9) ?_
  kbo_bools
  have hjp9 : At t9 jp (.lst ((ws.map hexS).map D.str)) := by k_upd
  refine ws_for ?_
  kbo_bools
  refine w_written hjc9 hw (by omega) fun t10 f10 => ?_
  have hjc10 := hjc9.fr0 f10
  have hjp10 := hjp9.fr0 f10
  kbo_bools
  refine w_loose hjp10 hw (by omega) fun L1 t11 rd1 ln1 f11 => ?_
  have hjc11 := hjc10.fr0 f11
  have hjp11 := hjp10.fr0 f11
  kbo_bools
  refine r_new fun t12 jt hjt nt ft => ?_
  kbo_bools
  refine gd_i ⟨_, lAt_at hjt⟩ ?_
  have ok1 : rdS 1 [] [] (codeL ws) = .ok ws := codeL_ok hw 1
  have ok2 : rdS 1 [] [] L1 = .ok ws := by
    have := rd1 1 [] []
    rw [List.append_nil] at this
    rw [this]
    simp [rdS, endp]
  have hjc12 := hjc11.fr0 ft
  have hjp12 := hjp11.fr0 ft
  refine wfor_b (σ := Unit) hjt (fun _ _ => [some (.lst (ns.map D.int)), some (.int m), some (.box jc), some (.int r), some (.box jp), some (.box jh), none, none, none, none, none, none, none, none])
    (fun i _ t => At t jc (.lst (ws.map D.int)) ∧ At t jp (.lst ((ws.map hexS).map D.str)) ∧ At t jt (.lst [.str (codeT ws), .str (mkS L1)])) () ?_ ⟨hjc12, hjp12, hjt⟩ (fun _ _ _ q => q.2.2) ?_ ?_
  · exact ⟨rfl, rfl, rfl, rfl, rfl, rfl, trivial⟩
  · rintro i x ⟨⟩ f t hx ⟨a1, a2, a3⟩
    have hx' : ∃ L, x = .str (mkS L) ∧ L.length ≤ 90000 ∧ rdS 1 [] [] L = .ok ws := by
      have := List.mem_of_getElem? hx
      simp only [List.mem_cons, List.not_mem_nil, or_false] at this
      rcases this with rfl | rfl
      · exact ⟨codeL ws, by rw [codeT_mk], by have := codeL_len ws; omega, ok1⟩
      · exact ⟨L1, rfl, by omega, ok2⟩
    obtain ⟨L, rfl, hL, hok⟩ := hx'
    kbo_bools
    refine w_read hL hok fun t13 jr hr nr fr => ?_
    have l1 := a1.lt
    have l2 := a2.lt
    have l3 := a3.lt
    have a1 := a1.fr0 fr
    have a2 := a2.fr0 fr
    have a3 := a3.fr0 fr
    have n1 : jc ≠ jr := nr.ne l1
    have n2 : jp ≠ jr := nr.ne l2
    have n3 : jt ≠ jr := nr.ne l3
    kbo_bools
    refine r_isiLL hr ?_
    kbo_bools
    refine r_ne2L hr ?_
    refine r_ne (eq_boxes hr a1) ?_
    kbo_bools
    refine r_chk hr ?_
    kbo_bools
    refine r_app hr (by simp; omega) fun t14 h14 f14 => ?_
    refine dn_i ⟨(), ⟨rfl, rfl, rfl, rfl, rfl, rfl, trivial⟩, a1.fr1 f14 n1, a2.fr1 f14 n2, a3.fr1 f14 n3⟩
  · rintro ⟨⟩ f t ⟨a1, a2, a3⟩
    kbo_bools
    refine w_deal3 (by omega) (by omega) fun t13 j13 d13 n13 f13 => ?_
    have lc := a1.lt
    have lp := a2.lt
    have a1 := a1.fr0 f13
    have a2 := a2.fr0 f13
    kbo_bools
    refine r_len a2 ?_
    have ln : (((ws.map hexS).map D.str).length : Int) = ws.length := by simp
    rw [ln]
    kbo_bools
    refine w_draw3 d13 (by omega) (by omega) fun a t14 a0 a1' d14 f14 => ?_
    have l1 : jc ≠ j13 := n13.ne lc
    have l2 : jp ≠ j13 := n13.ne lp
    have a1 := a1.fr1 f14 l1
    have a2 := a2.fr1 f14 l2
    kbo_bools
    refine w_bad_piece d14 fun p t15 bp d15 f15 => ?_
    have a1 := a1.fr1 f15 l1
    have a2 := a2.fr1 f15 l2
    have bl : p.length ≤ 40 := by obtain ⟨_, _, _, _, _, _, _, h⟩ := bp; exact h
    kbo_bools
    refine r_slL a2 ?_
    rw [cut_to a0, ← List.map_take, ← List.map_take]
    refine r_new fun t16 jx hjx nx fx => ?_
    have a1 := a1.fr0 fx
    have a2 := a2.fr0 fx
    have d16 := d15.fr0 fx
    kbo_bools
    have tl1 : (ws.take a.toNat).length ≤ 252 := by rw [List.length_take]; omega
    have tl2 : (ws.drop a.toNat).length ≤ 252 := by rw [List.length_drop]; omega
    refine w_loose hjx (hw.take _) (by omega) fun L2 t17 rd2 ln2 f17 => ?_
    have a1 := a1.fr0 f17
    have a2 := a2.fr0 f17
    have d17 := d16.fr0 f17
    kbo_bools
    refine gd_i (by rw [mkS_len, mkS_len]; omega) ?_
    rw [mk_app]
    kbo_bools
    have l32 : (Str.ofString " ").length = 1 := by rw [TL.len_tl, tl_sp]; rfl
    have e32 : Str.ofString " " = mkS [32] := ext_tl tl_sp
    refine gd_i (by rw [mkS_len, l32, List.length_append]; omega) ?_
    rw [e32, mk_app]
    kbo_bools
    refine r_slL a2 ?_
    rw [cut_from a0, ← List.map_drop, ← List.map_drop]
    refine r_new fun t18 jy hjy ny fy => ?_
    have a1 := a1.fr0 fy
    have d18 := d17.fr0 fy
    kbo_bools
    refine w_loose hjy (hw.drop _) (by omega) fun L3 t19 rd3 ln3 f19 => ?_
    have a1 := a1.fr0 f19
    have d19 := d18.fr0 f19
    kbo_bools
    refine gd_i (by rw [mkS_len, mkS_len, List.length_append, List.length_append]; simp; omega) ?_
    rw [mk_app]
    kbo_bools
    refine w_draw3 d19 (by omega) (by omega) fun b t20 b0 b1 d20 f20 => ?_
    have a1 := a1.fr1 f20 l1
    kbo_bools
    refine sel_join (fun e' t => ∃ tail, Sl e' [some (.lst (ns.map D.int)), some (.int m), some (.box jc), none, none, none, some (.str (mkS (L2 ++ p ++ 32 :: tail))), none, none, none, some (.str (mkS L2)), none, none, none] ∧ At t jc (.lst (ws.map D.int)) ∧ (L2 ++ p ++ 32 :: tail).length ≤ 90000) (fun c => ?_) (fun c => ?_) ?_
    · kbo_bools
      have l10 : (Str.ofString "\n").length = 1 := by rw [TL.len_tl, tl_nl]; rfl
      have e10 : Str.ofString "\n" = mkS [10] := ext_tl tl_nl
      refine gd_i (by rw [mkS_len, l10]; simp only [List.length_append, List.length_cons, List.length_nil]; omega) ?_
      rw [e10, mk_app]
      kbo_bools
      refine w_bad_piece d20 fun p2 t21 bp2 d21 f21 => ?_
      have a1 := a1.fr1 f21 l1
      have bl2 : p2.length ≤ 40 := by obtain ⟨_, _, _, _, _, _, _, h⟩ := bp2; exact h
      kbo_bools
      refine gd_i (by rw [mkS_len, mkS_len]; simp only [List.length_append, List.length_cons, List.length_nil]; omega) ?_
      rw [mk_app]
      kbo_bools
      refine dn_i ⟨L3 ++ 10 :: p2, ⟨rfl, rfl, rfl, ?_, rfl, trivial⟩, a1, ?_⟩
      · simp
      · simp only [List.length_append, List.length_cons, List.length_nil]
        omega
    · kbo_bools
      refine dn_i ⟨L3, ⟨rfl, rfl, rfl, ?_, rfl, trivial⟩, a1, ?_⟩
      · simp
      · simp only [List.length_append, List.length_cons, List.length_nil]
        omega
    rintro e' t22 ⟨tail, sl2, hjz, hlz⟩
    obtain ⟨f2, rfl⟩ := Sl_fill 0 sl2
    allgen_close2_more
    kbo_bools
    refine w_refused (by rw [← List.append_assoc]; exact hlz) (by rw [← List.append_assoc]; exact bad_text rd2 bp) fun t23 f23 => ?_
    have hjz := hjz.fr0 f23
    kbo_bools
    rw [count_nl]
    kbo_bools
    refine w_written hjz hw (by omega) fun t24 f24 => ?_
    have hjz := hjz.fr0 f24
    rw [codeT_mk]
    kbo_bools
    refine w_read (by have := codeL_len ws; omega) ok1 fun t25 jq hq nq fq => ?_
    have hjz := hjz.fr0 fq
    kbo_bools
    refine r_eq2L hq ?_
    refine r_eq (eq_boxes hq hjz) ?_
    kbo_bools
end
theorem law_true_k14 : ∀ ns : List Int, ns.length ≤ 63 → ∃ t, g_law_k14 [.lst (ns.map D.int)] [] = .ok (.bl true) t := fun ns h => run_of_wp (w_law14 h)
end P

set_option Elab.async false
set_option linter.all false
set_option maxRecDepth 100000
set_option maxHeartbeats 4000000
/-! the walk of the law: each def of the text and what its data level is -/
namespace Lk14
open PySem L2 G P
def top (i : Nat) : Stmt := PySem.Challenge.pw_fencemask_k14_code_as_text.main.body.getD i (.Pass ⟨0, 0, 0, 0⟩)
abbrev s_law_many : Stmt := top 18
abbrev n_law_many : List Str := ["_law_script"]
theorem sc_law_many : FnScope n_law_many ["_law_script"] (defScope s_law_many) := ⟨rfl, rfl, rfl, by decide +kernel, rfl, by decide +kernel, by decide +kernel⟩
abbrev s_law_draw : Stmt := top 17
abbrev n_law_draw : List Str := ["_law_deal_here", "_law_many_here", "_law_number", "_law_one", "_law_two", "_law_found"]
theorem sc_law_draw : FnScope n_law_draw ["_law_deal_here", "_law_many_here"] (defScope s_law_draw) := ⟨rfl, rfl, rfl, by decide +kernel, rfl, by decide +kernel, by decide +kernel⟩
abbrev s_law_deal : Stmt := top 16
abbrev n_law_deal : List Str := ["_law_script", "_law_k", "_law_number", "_law_form", "_law_own"]
theorem sc_law_deal : FnScope n_law_deal ["_law_script", "_law_k"] (defScope s_law_deal) := ⟨rfl, rfl, rfl, by decide +kernel, rfl, by decide +kernel, by decide +kernel⟩
abbrev s_law_signs : Stmt := top 19
abbrev n_law_signs : List Str := ["_law_word", "_law_found", "_law_k"]
theorem sc_law_signs : FnScope n_law_signs ["_law_word"] (defScope s_law_signs) := ⟨rfl, rfl, rfl, by decide +kernel, rfl, by decide +kernel, by decide +kernel⟩
abbrev s_rest : Stmt := top 1
abbrev n_rest : List Str := ["v", "bits"]
theorem sc_rest : FnScope n_rest ["v", "bits"] (defScope s_rest) := ⟨rfl, rfl, rfl, by decide +kernel, rfl, by decide +kernel, by decide +kernel⟩
abbrev s_word_text : Stmt := top 13
abbrev n_word_text : List Str := ["word", "k"]
theorem sc_word_text : FnScope n_word_text ["word"] (defScope s_word_text) := ⟨rfl, rfl, rfl, by decide +kernel, rfl, by decide +kernel, by decide +kernel⟩
abbrev s_code_text : Stmt := top 14
abbrev n_code_text : List Str := ["code", "rows", "at", "word"]
theorem sc_code_text : FnScope n_code_text ["code"] (defScope s_code_text) := ⟨rfl, rfl, rfl, by decide +kernel, rfl, by decide +kernel, by decide +kernel⟩
abbrev s_law_written : Stmt := top 20
abbrev n_law_written : List Str := ["_law_code", "_law_rows", "_law_k", "_law_word"]
theorem sc_law_written : FnScope n_law_written ["_law_code"] (defScope s_law_written) := ⟨rfl, rfl, rfl, by decide +kernel, rfl, by decide +kernel, by decide +kernel⟩
abbrev s_law_loose : Stmt := top 21
abbrev n_law_loose : List Str := ["_law_script", "_law_pieces", "_law_found", "_law_k", "_law_deal_here"]
theorem sc_law_loose : FnScope n_law_loose ["_law_script", "_law_pieces"] (defScope s_law_loose) := ⟨rfl, rfl, rfl, by decide +kernel, rfl, by decide +kernel, by decide +kernel⟩
abbrev s_is_word : Stmt := top 11
abbrev n_is_word : List Str := ["piece", "sign"]
theorem sc_is_word : FnScope n_is_word ["piece"] (defScope s_is_word) := ⟨rfl, rfl, rfl, by decide +kernel, rfl, by decide +kernel, by decide +kernel⟩
abbrev s_read_code : Stmt := top 12
abbrev n_read_code : List Str := ["text", "code", "line", "row", "piece", "word", "sign"]
theorem sc_read_code : FnScope n_read_code ["text"] (defScope s_read_code) := ⟨rfl, rfl, rfl, by decide +kernel, rfl, by decide +kernel, by decide +kernel⟩
abbrev s_law_piece : Stmt := top 22
abbrev n_law_piece : List Str := ["_law_deal_here", "_law_word", "_law_at", "_law_some"]
theorem sc_law_piece : FnScope n_law_piece ["_law_deal_here"] (defScope s_law_piece) := ⟨rfl, rfl, rfl, by decide +kernel, rfl, by decide +kernel, by decide +kernel⟩
abbrev s_read_code_r : Stmt := top 12
abbrev n_read_code_r : List Str := ["text", "code", "line", "row", "piece", "word", "sign"]
theorem sc_read_code_r : FnScope n_read_code_r ["text"] (defScope s_read_code_r) := ⟨rfl, rfl, rfl, by decide +kernel, rfl, by decide +kernel, by decide +kernel⟩
abbrev s_law_refused : Stmt := top 23
abbrev n_law_refused : List Str := ["_law_text", "_law_line", "_law_others", "e"]
theorem sc_law_refused : FnScope n_law_refused ["_law_text"] (defScope s_law_refused) := ⟨rfl, rfl, rfl, by decide +kernel, rfl, by decide +kernel, by decide +kernel⟩
abbrev s_law_k14 : Stmt := top 24
abbrev n_law_k14 : List Str := ["_law_script", "_law_many_here", "_law_code", "_law_form", "_law_pieces", "_law_handed", "_law_text", "_law_deal_here", "_law_at", "_law_piece_here", "_law_ahead", "_law_found", "_law_k", "_law_word"]
theorem sc_law_k14 : FnScope n_law_k14 ["_law_script"] (defScope s_law_k14) := ⟨rfl, rfl, rfl, by decide +kernel, rfl, by decide +kernel, by decide +kernel⟩
abbrev s_NoText_init : Stmt := inClass (top 4) 0
theorem sc_NoText_init : FnScope ["self", "line"] ["self", "line"] (defScope s_NoText_init) := ⟨rfl, rfl, rfl, by decide +kernel, rfl, by decide +kernel, by decide +kernel⟩
structure Tx (K : PySem.W.Frag) (pr : Params) (mg : Str → Option Value) (cl : Str → Addr) : Prop where
  m_len : mg "len" = none
  m_min : mg "min" = none
  m_max : mg "max" = none
  m_range : mg "range" = none
  m_reversed : mg "reversed" = none
  m_enumerate : mg "enumerate" = none
  m_isinstance : mg "isinstance" = none
  m_bool : mg "bool" = none
  m_list : mg "list" = none
  k_SIGNS : Kg K mg "SIGNS" (.str "0123456789abcdef")
  k_IN_A_ROW : Kg K mg "IN_A_ROW" (.int 8)
  e_FenceError : mg "FenceError" = some (.ref (cl "FenceError"))
  x_FenceError_NoText : PySem.W.exmOne K (.ref (cl "NoText")) (.ref (cl "FenceError")) = some true
  w_NoText : mg "NoText" = some (.ref (cl "NoText"))
  w_NotWithin : mg "NotWithin" = some (.ref (cl "NotWithin"))
  w_NoGuest : mg "NoGuest" = some (.ref (cl "NoGuest"))
  w_TooLong : mg "TooLong" = some (.ref (cl "TooLong"))
  y_NoText : L2.ExcC K (cl "NoText")
  i_NoText_TooLong : PySem.W.kitOne K (.ref (cl "NoText")) (.ref (cl "TooLong")) = some false
  i_NoText_NoGuest : PySem.W.kitOne K (.ref (cl "NoText")) (.ref (cl "NoGuest")) = some false
  i_NoText_NotWithin : PySem.W.kitOne K (.ref (cl "NoText")) (.ref (cl "NotWithin")) = some false
  i_NoText_NoText : PySem.W.kitOne K (.ref (cl "NoText")) (.ref (cl "NoText")) = some true
  j_NoText_line : PySem.W.findIn K (.ref (cl "NoText")) "line" = some none
section
variable {P : Program} {w : World} {K : PySem.W.Frag} {mg : Str → Option Value} {base : Heap} {cl : Str → Addr}
theorem ok_NoText_init (mB : mg "FenceError" = some (.ref (cl "FenceError"))) (rB : ClX.CRead K (cl "FenceError") (.type "type")) (vB : PySem.W.findCls K (.ref (cl "FenceError")) (.type "type") "__init__" = some (.val (.builtin "ValueError.__init__"))) (TO : OexC K (cl "NoText")) (n_line : PySem.W.findIn K (.ref (cl "NoText")) "line" = some none) {f : Addr} {fd : FuncData} (F : Fun K "__init__" "NoText.__init__" s_NoText_init f fd) : FnOk P w K mg base CX0 1 f fd ["self", "line"] (spI (cl "NoText") ["line"]) :=
  fn_ini1 F sc_NoText_init TO n_line fun cdv A outer s H E => (pss_cons (ps_expr (pe_cinit rfl mB rB vB (pa_cons (pe_var (i := 0) rfl (Or.inl rfl)) (pa_cons pe_str pa_nil)))) (pss_cons (ps_ost (pe_var (i := 0) rfl (Or.inl rfl)) (pe_var (i := 1) rfl (Or.inl rfl))) pss_nil))
theorem ok_law_many (T : Tx K w.params mg cl)   {f : Addr} {fd : FuncData} (F : Fun K "_law_many" "_law_many" s_law_many f fd) (hm : mg "_law_many" = some (.ref f)) (hb : Binds K fd ["_law_script"] []) : Df (wz P w K mg base cl) "_law_many" 1 1 g_law_many :=
  have nd := sc_law_many.nd
  df_mk (Y := wz P w K mg base cl) rfl rfl F sc_law_many hm hb rfl rfl fun cdv A outer s H E hr => (ss_one (ss_ret (s_max rfl rfl T.m_max (a_cons s_int (a_cons (s_min rfl rfl T.m_min (a_cons s_int (a_cons (s_len rfl T.m_len (a_cons (s_var 0) a_nil)) a_nil))) a_nil)))))
theorem ok_law_draw (T : Tx K w.params mg cl)   {f : Addr} {fd : FuncData} (F : Fun K "_law_draw" "_law_draw" s_law_draw f fd) (hm : mg "_law_draw" = some (.ref f)) (hb : Binds K fd ["_law_deal_here", "_law_many_here"] []) : Df (wz P w K mg base cl) "_law_draw" 1 2 g_law_draw :=
  have nd := sc_law_draw.nd
  df_mk (Y := wz P w K mg base cl) rfl rfl F sc_law_draw hm hb rfl rfl fun cdv A outer s H E hr => (ss_cons (ss_if (t_pw (w_and (t_cmp (og_eq hr.units) (s_ix (s_var 0) s_int) s_int (by rfl)) (w_and1 (t_cmp og_gt (s_ix (s_var 0) s_int) s_int (by rfl))))) (ss_cons (ss_set 5 nd (s_bin og_mod (s_ix (s_var 0) s_int) (s_var 1))) (ss_cons (ss_put set_list pu_lst (s_var 0) s_int (s_bin og_div (s_ix (s_var 0) s_int) (s_var 1))) (ss_one (ss_ret (s_var 5))))) ss_nil) (ss_cons (ss_set 2 nd (s_bin og_mod (s_bin og_add (s_bin og_mul (s_ix (s_var 0) s_int) s_int) s_int) s_int)) (ss_cons (ss_put set_list pu_lst (s_var 0) s_int (s_bin og_mod (s_bin og_add (s_bin og_mul (s_var 2) s_int) s_int) s_int)) (ss_cons (ss_set 3 nd (s_bin og_mod (s_bin og_mul (s_var 2) (s_var 2)) s_int)) (ss_cons (ss_set 4 nd (s_bin og_mod (s_bin og_mul (s_ix (s_var 0) s_int) (s_ix (s_var 0) s_int)) s_int)) (ss_one (ss_ret (s_bin og_mod (s_bin og_add (s_bin og_mul (s_var 3) s_int) (s_var 4)) (s_var 1)))))))))
theorem ok_law_deal (T : Tx K w.params mg cl)   {f : Addr} {fd : FuncData} (F : Fun K "_law_deal" "_law_deal" s_law_deal f fd) (hm : mg "_law_deal" = some (.ref f)) (hb : Binds K fd ["_law_script", "_law_k"] []) : Df (wz P w K mg base cl) "_law_deal" 1 2 g_law_deal :=
  have nd := sc_law_deal.nd
  df_mk (Y := wz P w K mg base cl) rfl rfl F sc_law_deal hm hb rfl rfl fun cdv A outer s H E hr => (ss_cons (ss_set 2 nd (s_bin og_add (s_bin og_mul s_int (s_var 1)) s_int)) (ss_cons (ss_set 3 nd s_int) (ss_cons (ss_if (t_cmp og_gt (s_len rfl T.m_len (a_cons (s_var 0) a_nil)) s_int (by rfl)) (ss_cons (ss_set 2 nd (s_bin og_add (s_bin og_mul (s_ix (s_var 0) (s_bin og_mod (s_var 1) (s_len rfl T.m_len (a_cons (s_var 0) a_nil)))) s_int) (s_bin og_mul (s_bin og_mul s_int (s_var 1)) (s_var 1)))) (ss_one (ss_set 3 nd (s_bin og_mod (s_ix (s_var 0) s_int) s_int)))) ss_nil) (ss_cons (ss_if (t_cmp og_ge (s_var 1) (s_len rfl T.m_len (a_cons (s_var 0) a_nil)) (by rfl)) (ss_one (ss_set 3 nd s_int)) ss_nil) (ss_cons (ss_set 4 nd s_int) (ss_cons (ss_if (t_cmp og_lt (s_var 1) (s_len rfl T.m_len (a_cons (s_var 0) a_nil)) (by rfl)) (ss_one (ss_set 4 nd (s_ix (s_var 0) (s_var 1)))) ss_nil) (ss_cons (ss_if (t_cmp og_lt (s_var 4) s_int (by rfl)) (ss_one (ss_set 4 nd (s_bin og_sub s_int (s_var 4)))) ss_nil) (ss_one (ss_ret (s_lst (a_cons (s_var 3) (a_cons (s_var 4) (a_cons (s_bin og_add (s_bin og_mod (s_var 2) s_int) (s_bin og_mod (s_var 4) s_int)) a_nil)))))))))))))
theorem ok_law_signs (T : Tx K w.params mg cl)   {f : Addr} {fd : FuncData} (F : Fun K "_law_signs" "_law_signs" s_law_signs f fd) (hm : mg "_law_signs" = some (.ref f)) (hb : Binds K fd ["_law_word"] []) : Df (wz P w K mg base cl) "_law_signs" 1 1 g_law_signs :=
  have nd := sc_law_signs.nd
  df_mk (Y := wz P w K mg base cl) rfl rfl F sc_law_signs hm hb rfl rfl fun cdv A outer s H E hr => (ss_cons (ss_set 1 nd s_str) (ss_cons (ss_for PassesOwn.never rfl (i_rng rfl T.m_range s_int) (g_name 2 nd) (ss_cons (ss_set 1 nd (s_bin og_add (s_ix s_str (s_bin og_mod (s_var 0) s_int)) (s_var 1))) (ss_one (ss_set 0 nd (s_bin og_div (s_var 0) s_int))))) (ss_one (ss_ret (s_var 1)))))
theorem ok_rest (T : Tx K w.params mg cl)   {f : Addr} {fd : FuncData} (F : Fun K "rest" "rest" s_rest f fd) (hm : mg "rest" = some (.ref f)) (hb : Binds K fd ["v", "bits"] []) : Df (wz P w K mg base cl) "rest" 1 2 g_rest :=
  have nd := sc_rest.nd
  df_mk (Y := wz P w K mg base cl) rfl rfl F sc_rest hm hb rfl rfl fun cdv A outer s H E hr => (ss_one (ss_ret (s_bin og_mod (s_var 0) (s_bin og_shl s_int (s_var 1)))))
theorem ok_word_text (T : Tx K w.params mg cl)  (d_rest : Df (wz P w K mg base cl) "rest" 1 2 g_rest) {f : Addr} {fd : FuncData} (F : Fun K "word_text" "word_text" s_word_text f fd) (hm : mg "word_text" = some (.ref f)) (hb : Binds K fd ["word"] []) : Df (wz P w K mg base cl) "word_text" 2 1 g_word_text :=
  have nd := sc_word_text.nd
  df_mk (Y := wz P w K mg base cl) rfl rfl F sc_word_text hm hb rfl rfl fun cdv A outer s H E hr => (ss_one (ss_ret (s_join s_str (s_lc rfl nd (i_revR rfl T.m_reversed rfl T.m_range s_int) (blkOk_by (own := [("k", 1)]) (N := n_word_text) (sc := defScope s_word_text) (by decide +kernel)) rfl (cg_name (by decide)) (fun _ _ _ _ _ => pg_name (i := 1) nd rfl (Or.inl rfl)) (fun _ _ _ _ _ => ts_nil) (fun _ _ _ _ _ => (s_ix (z_kon T.k_SIGNS rfl rfl rfl) (z_call d_rest ⟨rfl, rfl, rfl, rfl, rfl⟩ (hr.mono (by decide)) rfl (a_cons (s_bin og_shr (s_var 0) (s_bin og_mul s_int (s_var 1))) (a_cons s_int a_nil)))))))))
theorem ok_code_text (T : Tx K w.params mg cl)  (d_word_text : Df (wz P w K mg base cl) "word_text" 2 1 g_word_text) {f : Addr} {fd : FuncData} (F : Fun K "code_text" "code_text" s_code_text f fd) (hm : mg "code_text" = some (.ref f)) (hb : Binds K fd ["code"] []) : Df (wz P w K mg base cl) "code_text" 3 1 g_code_text :=
  have nd := sc_code_text.nd
  df_mk (Y := wz P w K mg base cl) rfl rfl F sc_code_text hm hb rfl rfl fun cdv A outer s H E hr => (ss_cons (ss_set 1 nd (s_lst a_nil)) (ss_cons (ss_for PassesOwn.never rfl (i_rngS rfl T.m_range s_int (s_len rfl T.m_len (a_cons (s_var 0) a_nil)) (z_kon T.k_IN_A_ROW rfl rfl rfl)) (g_name 2 nd) (ss_one (ss_drop (s_app (s_var 1) (a_cons (s_join s_str (s_lc rfl nd (i_seq (s_sl (s_var 0) (o_some (s_var 2)) (o_some (s_bin og_add (s_var 2) (z_kon T.k_IN_A_ROW rfl rfl rfl))))) (blkOk_by (own := [("word", 3)]) (N := n_code_text) (sc := defScope s_code_text) (by decide +kernel)) rfl (cg_name (by decide)) (fun _ _ _ _ _ => pg_name (i := 3) nd rfl (Or.inl rfl)) (fun _ _ _ _ _ => ts_nil) (fun _ _ _ _ _ => (z_call d_word_text ⟨rfl, rfl, rfl, rfl, rfl⟩ (hr.mono (by decide)) rfl (a_cons (s_var 3) a_nil))))) a_nil))))) (ss_one (ss_ret (s_join s_str (s_var 1))))))
theorem ok_law_written (T : Tx K w.params mg cl)  (d__law_signs : Df (wz P w K mg base cl) "_law_signs" 1 1 g_law_signs) {f : Addr} {fd : FuncData} (F : Fun K "_law_written" "_law_written" s_law_written f fd) (hm : mg "_law_written" = some (.ref f)) (hb : Binds K fd ["_law_code"] []) : Df (wz P w K mg base cl) "_law_written" 2 1 g_law_written :=
  have nd := sc_law_written.nd
  df_mk (Y := wz P w K mg base cl) rfl rfl F sc_law_written hm hb rfl rfl fun cdv A outer s H E hr => (ss_cons (ss_set 1 nd (s_lst a_nil)) (ss_cons (ss_for PassesOwn.never rfl (i_rngS rfl T.m_range s_int (s_len rfl T.m_len (a_cons (s_var 0) a_nil)) s_int) (g_name 2 nd) (ss_one (ss_drop (s_app (s_var 1) (a_cons (s_join s_str (s_lc rfl nd (i_seq (s_sl (s_var 0) (o_some (s_var 2)) (o_some (s_bin og_add (s_var 2) s_int)))) (blkOk_by (own := [("_law_word", 3)]) (N := n_law_written) (sc := defScope s_law_written) (by decide +kernel)) rfl (cg_name (by decide)) (fun _ _ _ _ _ => pg_name (i := 3) nd rfl (Or.inl rfl)) (fun _ _ _ _ _ => ts_nil) (fun _ _ _ _ _ => (z_call d__law_signs ⟨rfl, rfl, rfl, rfl, rfl⟩ (hr.mono (by decide)) rfl (a_cons (s_var 3) a_nil))))) a_nil))))) (ss_one (ss_ret (s_join s_str (s_var 1))))))
theorem ok_law_loose (T : Tx K w.params mg cl)  (d__law_draw : Df (wz P w K mg base cl) "_law_draw" 1 2 g_law_draw) (d__law_deal : Df (wz P w K mg base cl) "_law_deal" 1 2 g_law_deal) {f : Addr} {fd : FuncData} (F : Fun K "_law_loose" "_law_loose" s_law_loose f fd) (hm : mg "_law_loose" = some (.ref f)) (hb : Binds K fd ["_law_script", "_law_pieces"] []) : Df (wz P w K mg base cl) "_law_loose" 2 2 g_law_loose_1 :=
  have nd := sc_law_loose.nd
  df_mk (Y := wz P w K mg base cl) rfl rfl F sc_law_loose hm hb rfl rfl fun cdv A outer s H E hr => (ss_cons (ss_set 2 nd (s_pick (l_lst (a_cons s_str (a_cons s_str (a_cons s_str (a_cons s_str a_nil))))) (z_call d__law_draw ⟨rfl, rfl, rfl, rfl, rfl⟩ (hr.mono (by decide)) rfl (a_cons (z_call d__law_deal ⟨rfl, rfl, rfl, rfl, rfl⟩ (hr.mono (by decide)) rfl (a_cons (s_var 0) (a_cons s_int a_nil))) (a_cons s_int a_nil))))) (ss_cons (ss_for PassesOwn.never rfl (i_rng rfl T.m_range (s_len rfl T.m_len (a_cons (s_var 1) a_nil))) (g_name 3 nd) (ss_cons (ss_set 4 nd (z_call d__law_deal ⟨rfl, rfl, rfl, rfl, rfl⟩ (hr.mono (by decide)) rfl (a_cons (s_var 0) (a_cons (s_bin og_mod (s_var 3) s_int) a_nil)))) (ss_one (ss_set 2 nd (s_bin og_add (s_bin og_add (s_var 2) (s_ix2 (u1_of hr.units) (s_var 1) (s_var 3))) (s_pick (l_lst (a_cons s_str (a_cons s_str (a_cons s_str (a_cons s_str (a_cons s_str a_nil)))))) (z_call d__law_draw ⟨rfl, rfl, rfl, rfl, rfl⟩ (hr.mono (by decide)) rfl (a_cons (s_var 4) (a_cons s_int a_nil))))))))) (ss_one (ss_ret (s_var 2)))))
theorem ok_is_word (T : Tx K w.params mg cl)   {f : Addr} {fd : FuncData} (F : Fun K "is_word" "is_word" s_is_word f fd) (hm : mg "is_word" = some (.ref f)) (hb : Binds K fd ["piece"] []) : Df (wz P w K mg base cl) "is_word" 1 1 g_is_word_1 :=
  have nd := sc_is_word.nd
  df_mk (Y := wz P w K mg base cl) rfl rfl F sc_is_word hm hb rfl rfl fun cdv A outer s H E hr => (ss_cons (ss_for PassesOwn.never rfl (i_seq (s_var 0)) (g_name 1 nd) (ss_one (ss_if (t_cmp og_ninS (s_var 1) (z_kon T.k_SIGNS rfl rfl rfl) (by rfl)) (ss_one (ss_ret s_bl)) ss_nil))) (ss_one (ss_ret (s_cmp (og_eq hr.units) (s_len rfl T.m_len (a_cons (s_var 0) a_nil)) s_int (by rfl)))))
theorem ok_read_code (T : Tx K w.params mg cl)  (d_is_word : Df (wz P w K mg base cl) "is_word" 1 1 g_is_word_1) {f : Addr} {fd : FuncData} (F : Fun K "read_code" "read_code" s_read_code f fd) (hm : mg "read_code" = some (.ref f)) (hb : Binds K fd ["text"] []) : Df (wz P w K mg base cl) "read_code" 2 1 g_read_code :=
  have nd := sc_read_code.nd
  df_mk (Y := wz P w K mg base cl) rfl rfl F sc_read_code hm hb rfl rfl fun cdv A outer s H E hr => (ss_cons (ss_set 1 nd (s_lst a_nil)) (ss_cons (ss_for PassesOwn.never rfl (i_enumK rfl T.m_enumerate (s_split (s_var 0) s_str)) (g_tup rfl (gs_cons 2 nd (gs_cons 3 nd gs_nil))) (ss_one (ss_for PassesOwn.never rfl (i_seq (s_split (s_var 3) s_str)) (g_name 4 nd) (ss_one (ss_if (t_cmp (og_ne hr.units) (s_var 4) s_str (by rfl)) (ss_cons (ss_if (t_not (t_val (z_call d_is_word ⟨rfl, rfl, rfl, rfl, rfl⟩ (hr.mono (by decide)) rfl (a_cons (s_var 4) a_nil)))) (ss_one ss_never) ss_nil) (ss_cons (ss_set 5 nd s_int) (ss_cons (ss_for PassesOwn.never rfl (i_seq (s_var 4)) (g_name 6 nd) (ss_one (ss_set 5 nd (s_bin og_add (s_bin og_mul (s_var 5) s_int) (s_idxS (z_kon T.k_SIGNS rfl rfl rfl) (s_var 6)))))) (ss_one (ss_drop (s_app (s_var 1) (a_cons (s_var 5) a_nil))))))) ss_nil))))) (ss_one (ss_ret (s_var 1)))))
theorem ok_law_piece (T : Tx K w.params mg cl)  (d__law_signs : Df (wz P w K mg base cl) "_law_signs" 1 1 g_law_signs) (d__law_draw : Df (wz P w K mg base cl) "_law_draw" 1 2 g_law_draw) {f : Addr} {fd : FuncData} (F : Fun K "_law_piece" "_law_piece" s_law_piece f fd) (hm : mg "_law_piece" = some (.ref f)) (hb : Binds K fd ["_law_deal_here"] []) : Df (wz P w K mg base cl) "_law_piece" 2 1 g_law_piece :=
  have nd := sc_law_piece.nd
  df_mk (Y := wz P w K mg base cl) rfl rfl F sc_law_piece hm hb rfl rfl fun cdv A outer s H E hr => (ss_cons (ss_set 1 nd (z_call d__law_signs ⟨rfl, rfl, rfl, rfl, rfl⟩ (hr.mono (by decide)) rfl (a_cons (z_call d__law_draw ⟨rfl, rfl, rfl, rfl, rfl⟩ (hr.mono (by decide)) rfl (a_cons (s_var 0) (a_cons (s_bin og_pow s_int s_int) a_nil))) a_nil))) (ss_cons (ss_set 2 nd (z_call d__law_draw ⟨rfl, rfl, rfl, rfl, rfl⟩ (hr.mono (by decide)) rfl (a_cons (s_var 0) (a_cons s_int a_nil)))) (ss_cons (ss_set 3 nd (s_lst (a_cons (s_bin og_add s_str (s_slS (s_var 1) (o_some s_int) o_none)) (a_cons (s_bin og_add (s_bin og_add (s_slS (s_var 1) o_none (o_some (s_bin og_add (s_bin og_mod (s_var 2) s_int) s_int))) s_str) (s_slS (s_var 1) (o_some (s_bin og_add (s_bin og_mod (s_var 2) s_int) s_int)) o_none)) (a_cons (s_slS (s_var 1) (o_some s_int) o_none) (a_cons (s_bin og_add (s_var 1) s_str) (a_cons s_str (a_cons (s_bin og_add s_str (s_var 1)) a_nil)))))))) (ss_cons (ss_set 3 nd (s_bin og_add (s_var 3) (s_lst (a_cons (s_bin og_add (s_bin og_add (s_slS (s_var 1) o_none (o_some (s_var 2))) s_str) (s_slS (s_var 1) (o_some (s_bin og_add (s_var 2) s_int)) o_none)) (a_cons (s_bin og_add (s_bin og_add (s_slS (s_var 1) o_none (o_some (s_var 2))) s_str) (s_slS (s_var 1) (o_some (s_bin og_add (s_var 2) s_int)) o_none)) a_nil))))) (ss_cons (ss_set 3 nd (s_bin og_add (s_var 3) (s_lst (a_cons (s_bin og_add (s_bin og_add (s_slS (s_var 1) o_none (o_some (s_var 2))) s_str) (s_slS (s_var 1) (o_some (s_bin og_add (s_var 2) s_int)) o_none)) (a_cons (s_bin og_add (s_var 1) (s_var 1)) (a_cons (s_bin og_add (s_bin og_add (s_var 1) (s_revS (s_var 1))) (s_var 1)) a_nil)))))) (ss_one (ss_ret (s_ix2 (u1_of hr.units) (s_bin og_add (s_var 3) (s_lst (a_cons (s_bin og_add (s_bin og_add (s_slS (s_var 1) o_none (o_some (s_bin og_add (s_bin og_mod (s_var 2) s_int) s_int))) s_str) (s_slS (s_var 1) (o_some (s_bin og_add (s_bin og_mod (s_var 2) s_int) s_int)) o_none)) (a_cons (s_bin og_add (s_bin og_add (s_slS (s_var 1) (o_some s_int) o_none) s_str) (s_var 1)) a_nil)))) (z_call d__law_draw ⟨rfl, rfl, rfl, rfl, rfl⟩ (hr.mono (by decide)) rfl (a_cons (s_var 0) (a_cons s_int a_nil)))))))))))
theorem ok_read_code_r (T : Tx K w.params mg cl)  (d_is_word : Df (wz P w K mg base cl) "is_word" 1 1 g_is_word_1) (r_NoText : Rz K mg P w base cl "NoText" 1 ["line"]) {f : Addr} {fd : FuncData} (F : Fun K "read_code" "read_code" s_read_code_r f fd) (hm : mg "read_code" = some (.ref f)) (hb : Binds K fd ["text"] []) : Df (wr P w K mg base cl) "read_code" 3 1 g_read_code_r :=
  have nd := sc_read_code_r.nd
  df_mkR F sc_read_code_r hm hb rfl rfl fun cdv A outer s H E hr => (ss_cons (ss_set 1 nd (s_lst a_nil)) (ss_cons (ss_for (passes_of rfl) rfl (i_enumK rfl T.m_enumerate (s_split (s_var 0) s_str)) (g_tup rfl (gs_cons 2 nd (gs_cons 3 nd gs_nil))) (ss_one (ss_for (passes_of rfl) rfl (i_seq (s_split (s_var 3) s_str)) (g_name 4 nd) (ss_one (ss_if (t_cmp (og_ne hr.units) (s_var 4) s_str (by rfl)) (ss_cons (ss_if (t_not (t_val (y_call d_is_word ⟨rfl, rfl, rfl, rfl, rfl⟩ (hr.mono (by decide)) rfl (a_cons (s_var 4) a_nil)))) (ss_one (ss_raise r_NoText rfl (takes_of rfl rfl rfl rfl) (hr.mono (by decide)) rfl (by decide) (a_cons (s_var 2) a_nil))) ss_nil) (ss_cons (ss_set 5 nd s_int) (ss_cons (ss_for (passes_of rfl) rfl (i_seq (s_var 4)) (g_name 6 nd) (ss_one (ss_set 5 nd (s_bin og_add (s_bin og_mul (s_var 5) s_int) (s_idxS (z_kon T.k_SIGNS rfl rfl rfl) (s_var 6)))))) (ss_one (ss_drop (s_app (s_var 1) (a_cons (s_var 5) a_nil))))))) ss_nil))))) (ss_one (ss_ret (s_var 1)))))
theorem ok_law_refused (T : Tx K w.params mg cl)  (d_read_code_r : Df (wr P w K mg base cl) "read_code" 3 1 g_read_code_r) {f : Addr} {fd : FuncData} (F : Fun K "_law_refused" "_law_refused" s_law_refused f fd) (hm : mg "_law_refused" = some (.ref f)) (hb : Binds K fd ["_law_text"] []) : Df (wz P w K mg base cl) "_law_refused" 4 1 g_law_refused_1 :=
  have nd := sc_law_refused.nd
  df_mk (Y := wz P w K mg base cl) rfl rfl F sc_law_refused hm hb rfl rfl fun cdv A outer s H E hr => (ss_cons (ss_set 1 nd s_int) (ss_cons (ss_tryA rfl rfl rfl nd ⟨rfl, by decide, .inl T.e_FenceError⟩ takes0 (List.forall_mem_cons.2 ⟨T.x_FenceError_NoText, (fun _ h => nomatch h)⟩) (fun W pn xe tk ps => (ss_one (ss_drop (r_call d_read_code_r ⟨rfl, rfl, rfl, rfl, rfl⟩ tk (hr.mono (by decide)) rfl (a_cons (s_var 0) a_nil))))) (fun a pn => (ss_cons (ss_set 2 nd (s_lst (a_cons (s_isO rfl T.m_isinstance rfl rfl T.w_NotWithin (fun _ h => nomatch h) (List.forall_mem_cons.2 ⟨⟨T.y_NoText, T.i_NoText_NotWithin⟩, (fun _ h => nomatch h)⟩) (s_var 3)) (a_cons (s_isO rfl T.m_isinstance rfl rfl T.w_NoGuest (fun _ h => nomatch h) (List.forall_mem_cons.2 ⟨⟨T.y_NoText, T.i_NoText_NoGuest⟩, (fun _ h => nomatch h)⟩) (s_var 3)) (a_cons (s_isO rfl T.m_isinstance rfl rfl T.w_TooLong (fun _ h => nomatch h) (List.forall_mem_cons.2 ⟨⟨T.y_NoText, T.i_NoText_TooLong⟩, (fun _ h => nomatch h)⟩) (s_var 3)) a_nil))))) (ss_one (ss_if (t_pw (w_and (t_val (s_isO rfl T.m_isinstance rfl rfl T.w_NoText (List.forall_mem_cons.2 ⟨⟨T.y_NoText, T.i_NoText_NoText⟩, (fun _ h => nomatch h)⟩) (fun _ h => nomatch h) (s_var 3))) (w_and (t_nin2 (u1_of hr.units) s_bl (s_var 2) (by rfl)) (w_and1 (t_not (t_val (s_isi rfl T.m_isinstance rfl T.m_bool (by decide +kernel) (s_xf (List.forall_mem_cons.2 ⟨⟨T.y_NoText, T.j_NoText_line⟩, (fun _ h => nomatch h)⟩) (s_var 3))))))))) (ss_one (ss_set 1 nd (s_xf (List.forall_mem_cons.2 ⟨⟨T.y_NoText, T.j_NoText_line⟩, (fun _ h => nomatch h)⟩) (s_var 3)))) ss_nil))))) (ss_one (ss_ret (s_var 1)))))
theorem ok_law (T : Tx K w.params mg cl)  (d__law_many : Df (wz P w K mg base cl) "_law_many" 1 1 g_law_many) (d__law_draw : Df (wz P w K mg base cl) "_law_draw" 1 2 g_law_draw) (d__law_deal : Df (wz P w K mg base cl) "_law_deal" 1 2 g_law_deal) (d__law_signs : Df (wz P w K mg base cl) "_law_signs" 1 1 g_law_signs) (d_code_text : Df (wz P w K mg base cl) "code_text" 3 1 g_code_text) (d__law_written : Df (wz P w K mg base cl) "_law_written" 2 1 g_law_written) (d__law_loose : Df (wz P w K mg base cl) "_law_loose" 2 2 g_law_loose_1) (d_read_code : Df (wz P w K mg base cl) "read_code" 2 1 g_read_code) (d__law_piece : Df (wz P w K mg base cl) "_law_piece" 2 1 g_law_piece) (d__law_refused : Df (wz P w K mg base cl) "_law_refused" 4 1 g_law_refused_1) {f : Addr} {fd : FuncData} (F : Fun K "law" "law" s_law_k14 f fd) : FnOk P w K mg base CX0 5 f fd ["_law_script"] (spOf K cl (fun _ => F0) 1 g_law_k14) :=
  have nd := sc_law_k14.nd
  fn_mk (Y := wz P w K mg base cl) rfl rfl F sc_law_k14 rfl rfl fun cdv A outer s H E hr => (ss_cons (ss_set 1 nd (z_call d__law_many ⟨rfl, rfl, rfl, rfl, rfl⟩ (hr.mono (by decide)) rfl (a_cons (s_var 0) a_nil))) (ss_cons (ss_setLc (i := 2) rfl nd rfl rfl (sw_true rfl rfl rfl (by decide +kernel)) (i_rng rfl T.m_range (s_var 1)) (blkOk_by (own := [("_law_k", 12)]) (N := n_law_k14) (sc := defScope s_law_k14) (by decide +kernel)) rfl (cg_name (by decide)) (fun _ _ _ _ _ => pg_name (i := 12) nd rfl (Or.inl rfl)) (fun _ _ _ _ _ => ts_nil) (fun _ _ _ _ _ => (z_call d__law_draw ⟨rfl, rfl, rfl, rfl, rfl⟩ (hr.mono (by decide)) rfl (a_cons (z_call d__law_deal ⟨rfl, rfl, rfl, rfl, rfl⟩ (hr.mono (by decide)) rfl (a_cons (s_var 0) (a_cons (s_var 12) a_nil))) (a_cons (s_bin og_pow s_int s_int) a_nil))))) (ss_cons (ss_set 3 nd (z_call d__law_draw ⟨rfl, rfl, rfl, rfl, rfl⟩ (hr.mono (by decide)) rfl (a_cons (z_call d__law_deal ⟨rfl, rfl, rfl, rfl, rfl⟩ (hr.mono (by decide)) rfl (a_cons (s_var 0) (a_cons (s_bin og_sub (s_var 1) s_int) a_nil))) (a_cons s_int a_nil)))) (ss_cons (ss_if (t_cmp (og_eq hr.units) (s_var 3) s_int (by rfl)) (ss_one (ss_set 2 nd (s_lst a_nil))) ss_nil) (ss_cons (ss_if (t_cmp (og_eq hr.units) (s_var 3) s_int (by rfl)) (ss_one (ss_set 2 nd (s_bin og_mul (s_var 2) s_int))) ss_nil) (ss_cons (ss_setLc (i := 4) rfl nd rfl rfl (sw_true rfl rfl rfl (by decide +kernel)) (i_seq (s_var 2)) (blkOk_by (own := [("_law_word", 13)]) (N := n_law_k14) (sc := defScope s_law_k14) (by decide +kernel)) rfl (cg_name (by decide)) (fun _ _ _ _ _ => pg_name (i := 13) nd rfl (Or.inl rfl)) (fun _ _ _ _ _ => ts_nil) (fun _ _ _ _ _ => (z_call d__law_signs ⟨rfl, rfl, rfl, rfl, rfl⟩ (hr.mono (by decide)) rfl (a_cons (s_var 13) a_nil)))) (ss_cons (ss_set 5 nd (s_list1 rfl T.m_list (a_cons (s_var 2) a_nil))) (ss_cons (ss_if (t_pw (w_or (t_cmp (og_ne2 hr.units) (z_call d_code_text ⟨rfl, rfl, rfl, rfl, rfl⟩ (hr.mono (by decide)) rfl (a_cons (s_var 5) a_nil)) (z_call d__law_written ⟨rfl, rfl, rfl, rfl, rfl⟩ (hr.mono (by decide)) rfl (a_cons (s_var 2) a_nil)) (by rfl)) (w_or1 (t_cmp (og_ne2 hr.units) (s_var 5) (s_var 2) (by rfl))))) (ss_one (ss_ret s_bl)) ss_nil) (ss_cons (ss_for PassesOwn.never rfl (i_seq (s_lst (a_cons (z_call d__law_written ⟨rfl, rfl, rfl, rfl, rfl⟩ (hr.mono (by decide)) rfl (a_cons (s_var 2) a_nil)) (a_cons (z_call d__law_loose ⟨rfl, rfl, rfl, rfl, rfl⟩ (hr.mono (by decide)) rfl (a_cons (s_var 0) (a_cons (s_var 4) a_nil))) a_nil)))) (g_name 6 nd) (ss_cons (ss_set 11 nd (z_call d_read_code ⟨rfl, rfl, rfl, rfl, rfl⟩ (hr.mono (by decide)) rfl (a_cons (s_var 6) a_nil))) (ss_cons (ss_if (t_pw (w_or (t_not (t_val (s_isi rfl T.m_isinstance rfl T.m_list (by decide +kernel) (s_var 11)))) (w_or1 (t_cmp (og_ne2 hr.units) (s_var 11) (s_var 2) (by rfl))))) (ss_one (ss_ret s_bl)) ss_nil) (ss_one (ss_drop (s_app (s_var 11) (a_cons s_int a_nil))))))) (ss_cons (ss_set 7 nd (z_call d__law_deal ⟨rfl, rfl, rfl, rfl, rfl⟩ (hr.mono (by decide)) rfl (a_cons (s_var 0) (a_cons (s_bin og_sub (s_var 1) s_int) a_nil)))) (ss_cons (ss_set 8 nd (z_call d__law_draw ⟨rfl, rfl, rfl, rfl, rfl⟩ (hr.mono (by decide)) rfl (a_cons (s_var 7) (a_cons (s_bin og_add (s_len rfl T.m_len (a_cons (s_var 4) a_nil)) s_int) a_nil)))) (ss_cons (ss_set 9 nd (z_call d__law_piece ⟨rfl, rfl, rfl, rfl, rfl⟩ (hr.mono (by decide)) rfl (a_cons (s_var 7) a_nil))) (ss_cons (ss_set 10 nd (z_call d__law_loose ⟨rfl, rfl, rfl, rfl, rfl⟩ (hr.mono (by decide)) rfl (a_cons (s_var 0) (a_cons (s_sl (s_var 4) o_none (o_some (s_var 8))) a_nil)))) (ss_cons (ss_set 6 nd (s_bin og_add (s_bin og_add (s_bin og_add (s_var 10) (s_var 9)) s_str) (z_call d__law_loose ⟨rfl, rfl, rfl, rfl, rfl⟩ (hr.mono (by decide)) rfl (a_cons (s_var 0) (a_cons (s_sl (s_var 4) (o_some (s_var 8)) o_none) a_nil))))) (ss_cons (ss_if (t_cmp (og_eq hr.units) (z_call d__law_draw ⟨rfl, rfl, rfl, rfl, rfl⟩ (hr.mono (by decide)) rfl (a_cons (s_var 7) (a_cons s_int a_nil))) s_int (by rfl)) (ss_one (ss_set 6 nd (s_bin og_add (s_bin og_add (s_var 6) s_str) (z_call d__law_piece ⟨rfl, rfl, rfl, rfl, rfl⟩ (hr.mono (by decide)) rfl (a_cons (s_var 7) a_nil))))) ss_nil) (ss_one (ss_ret (s_and (s_cmp (og_eq2 hr.units) (z_call d__law_refused ⟨rfl, rfl, rfl, rfl, rfl⟩ (hr.mono (by decide)) rfl (a_cons (s_var 6) a_nil)) (s_bin og_add s_int (s_cntS (s_var 10) s_str)) (by rfl)) (s_one (s_cmp (og_eq2 hr.units) (z_call d_read_code ⟨rfl, rfl, rfl, rfl, rfl⟩ (hr.mono (by decide)) rfl (a_cons (z_call d__law_written ⟨rfl, rfl, rfl, rfl, rfl⟩ (hr.mono (by decide)) rfl (a_cons (s_var 2) a_nil)) a_nil)) (s_var 2) (by rfl)))))))))))))))))))))
end
theorem all_mk {l : PySem.W.OpenLaw} {w : World} {K : PySem.W.Frag} {h : Heap} {mg : Str → Option Value} {fa f0 f1 f2 f3 f4 f5 f6 f7 f8 f9 f10 f11 f12 f13 f14 : Addr} (X : K.In h) (G : h.Ns mainGlobals mg) (hfa : mg "law" = some (.ref fa))
    {od0 an0 od1 an1 od2 an2 od3 an3 od4 an4 od5 an5 od6 an6 od7 an7 od8 an8 od9 an9 od10 an10 od11 an11 od12 an12 od13 an13 od14 an14 : Option Addr} {sl0 sl1 sl2 sl3 sl4 sl5 sl6 sl7 sl8 sl9 sl10 sl11 sl12 sl13 sl14 : Array (Option Value)} {oc0 kV0 dc0 pm0 cd0 ct0 oc1 kV1 dc1 pm1 cd1 ct1 oc2 kV2 dc2 pm2 cd2 ct2 oc3 kV3 dc3 pm3 cd3 ct3 oc4 kV4 dc4 pm4 cd4 ct4 oc5 kV5 dc5 pm5 cd5 ct5 oc6 kV6 dc6 pm6 cd6 ct6 oc7 kV7 dc7 pm7 cd7 ct7 oc8 kV8 dc8 pm8 cd8 ct8 oc9 kV9 dc9 pm9 cd9 ct9 oc10 kV10 dc10 pm10 cd10 ct10 oc11 kV11 dc11 pm11 cd11 ct11 oc12 kV12 dc12 pm12 cd12 ct12 oc13 kV13 dc13 pm13 cd13 ct13 oc14 kV14 dc14 pm14 cd14 ct14 : Value}
    {E_FenceError : Addr} (aE_FenceError : PySem.W.nsIn K mainGlobals "FenceError" = some (some (.ref E_FenceError)))
    {E_NoText : Addr} (aE_NoText : PySem.W.nsIn K mainGlobals "NoText" = some (some (.ref E_NoText)))
    {E_NotWithin : Addr} (aE_NotWithin : PySem.W.nsIn K mainGlobals "NotWithin" = some (some (.ref E_NotWithin)))
    {E_NoGuest : Addr} (aE_NoGuest : PySem.W.nsIn K mainGlobals "NoGuest" = some (some (.ref E_NoGuest)))
    {E_TooLong : Addr} (aE_TooLong : PySem.W.nsIn K mainGlobals "TooLong" = some (some (.ref E_TooLong)))
    (xb_FenceError : PySem.W.subIn K (.ref E_FenceError) (.type "BaseException") = some true) (xh_FenceError : PySem.W.hasDictIn K E_FenceError = true) (xt_FenceError : PySem.W.typeIn K (.ref E_FenceError) = some (.type "type"))
    (xs_FenceError_NoText : PySem.W.subIn K (.ref E_NoText) (.ref E_FenceError) = some true)
    (yg_NoText : PySem.W.findIn K (.ref E_NoText) "__getattribute__" = some (some (.builtin "BaseException.__getattribute__"))) (yk_NoText : PySem.W.findIn K (.ref E_NoText) "__getattr__" = some none) (yu_NoText : PySem.W.subIn K (.ref E_NoText) (.type "BaseException") = some true) (yd_NoText : PySem.W.hasDictIn K E_NoText = true)
    (ya_NoText : PySem.W.findIn K (.ref E_NoText) "__class__" = some (some (.builtin "object.__class__"))) (yn_NoText : PySem.W.specialIn K (.builtin "object.__class__") "__get__" = some (some (.builtin "getset_descriptor.__get__"))) (yw_NoText : PySem.W.takesIn K (.builtin "object.__class__") = some true) (ym_NoText : PySem.W.mroIn K E_NoText (.type "object") = some true)
    (ix_NoText_TooLong : PySem.W.kitOne K (.ref E_NoText) (.ref E_TooLong) = some false)
    (ix_NoText_NoGuest : PySem.W.kitOne K (.ref E_NoText) (.ref E_NoGuest) = some false)
    (ix_NoText_NotWithin : PySem.W.kitOne K (.ref E_NoText) (.ref E_NotWithin) = some false)
    (ix_NoText_NoText : PySem.W.kitOne K (.ref E_NoText) (.ref E_NoText) = some true)
    (jx_NoText_line : PySem.W.findIn K (.ref E_NoText) "line" = some none)
    (rd_FenceError : PySem.W.readsIn K E_FenceError (.type "type") = true) (ga_FenceError : PySem.W.specialIn K (.ref E_FenceError) "__getattribute__" = some (some (.builtin "type.__getattribute__"))) (vi_FenceError : PySem.W.findCls K (.ref E_FenceError) (.type "type") "__init__" = some (.val (.builtin "ValueError.__init__")))
    {nm_NoText qn_NoText : Str} {N_NoText : Addr} {bs_NoText bm_NoText sub_NoText : List Value} {sn_NoText : List Str} {ab_NoText : Bool} {col_NoText : Option Bool} {dd_NoText : Option Addr} {k0_NoText k1_NoText k2_NoText k3_NoText k5_NoText : Option Value}
    (ox_NoText : K.lookup E_NoText = some (excClassObj nm_NoText qn_NoText E_NoText N_NoText bs_NoText bm_NoText true sn_NoText sub_NoText ab_NoText col_NoText dd_NoText k0_NoText k1_NoText k2_NoText k3_NoText k5_NoText "ValueError.__new__")) (rv_NoText : PySem.HandSPX.refsVE bm_NoText = true) (sx_NoText : PySem.W.findIn K (.ref E_NoText) "__setattr__" = some (some (.builtin "object.__setattr__"))) (bx_NoText : PySem.W.subIn K (.ref E_NoText) (.type "BaseException") = some true) (tx_NoText : PySem.W.typeIn K (.ref E_NoText) = some (.type "type")) (kx_NoText : PySem.W.keepIn K (.ref E_NoText) = true)
    (nx_NoText_line : PySem.W.findIn K (.ref E_NoText) "line" = some none)
    {fI_NoText : Addr} {oc_NoText kV_NoText dc_NoText pm_NoText cd_NoText ct_NoText : Value} {od_NoText an_NoText : Option Addr} {sl_NoText : Array (Option Value)} (fi_NoText : PySem.W.findIn K (.ref E_NoText) "__init__" = some (some (.ref fI_NoText))) (ti_NoText : PySem.W.typeIn K (.ref fI_NoText) = some (.type "function")) (li_NoText : K.lookup fI_NoText = some ⟨oc_NoText, od_NoText, .func (PySem.W.fnOf "__init__" "NoText.__init__" (defArgs s_NoText_init) (defBody s_NoText_init) (defScope s_NoText_init) .none kV_NoText dc_NoText pm_NoText an_NoText cd_NoText ct_NoText), sl_NoText⟩) (ci_NoText : PySem.W.codeIn K cd_NoText "NoText.__init__" = true) (ki_NoText : PySem.W.keepIn K (.ref fI_NoText) = true)
    (a0 : PySem.W.nsIn K mainGlobals "_law_many" = some (some (.ref f0))) (l0 : K.lookup f0 = some ⟨oc0, od0, .func (PySem.W.fnOf "_law_many" "_law_many" (defArgs s_law_many) (defBody s_law_many) (defScope s_law_many) .none kV0 dc0 pm0 an0 cd0 ct0), sl0⟩) (c0 : PySem.W.codeIn K cd0 "_law_many" = true) (k0 : PySem.W.keepIn K (.ref f0) = true)
    (a1 : PySem.W.nsIn K mainGlobals "_law_draw" = some (some (.ref f1))) (l1 : K.lookup f1 = some ⟨oc1, od1, .func (PySem.W.fnOf "_law_draw" "_law_draw" (defArgs s_law_draw) (defBody s_law_draw) (defScope s_law_draw) .none kV1 dc1 pm1 an1 cd1 ct1), sl1⟩) (c1 : PySem.W.codeIn K cd1 "_law_draw" = true) (k1 : PySem.W.keepIn K (.ref f1) = true)
    (a2 : PySem.W.nsIn K mainGlobals "_law_deal" = some (some (.ref f2))) (l2 : K.lookup f2 = some ⟨oc2, od2, .func (PySem.W.fnOf "_law_deal" "_law_deal" (defArgs s_law_deal) (defBody s_law_deal) (defScope s_law_deal) .none kV2 dc2 pm2 an2 cd2 ct2), sl2⟩) (c2 : PySem.W.codeIn K cd2 "_law_deal" = true) (k2 : PySem.W.keepIn K (.ref f2) = true)
    (a3 : PySem.W.nsIn K mainGlobals "_law_signs" = some (some (.ref f3))) (l3 : K.lookup f3 = some ⟨oc3, od3, .func (PySem.W.fnOf "_law_signs" "_law_signs" (defArgs s_law_signs) (defBody s_law_signs) (defScope s_law_signs) .none kV3 dc3 pm3 an3 cd3 ct3), sl3⟩) (c3 : PySem.W.codeIn K cd3 "_law_signs" = true) (k3 : PySem.W.keepIn K (.ref f3) = true)
    (a4 : PySem.W.nsIn K mainGlobals "rest" = some (some (.ref f4))) (l4 : K.lookup f4 = some ⟨oc4, od4, .func (PySem.W.fnOf "rest" "rest" (defArgs s_rest) (defBody s_rest) (defScope s_rest) .none kV4 dc4 pm4 an4 cd4 ct4), sl4⟩) (c4 : PySem.W.codeIn K cd4 "rest" = true) (k4 : PySem.W.keepIn K (.ref f4) = true)
    (a5 : PySem.W.nsIn K mainGlobals "word_text" = some (some (.ref f5))) (l5 : K.lookup f5 = some ⟨oc5, od5, .func (PySem.W.fnOf "word_text" "word_text" (defArgs s_word_text) (defBody s_word_text) (defScope s_word_text) .none kV5 dc5 pm5 an5 cd5 ct5), sl5⟩) (c5 : PySem.W.codeIn K cd5 "word_text" = true) (k5 : PySem.W.keepIn K (.ref f5) = true)
    (a6 : PySem.W.nsIn K mainGlobals "code_text" = some (some (.ref f6))) (l6 : K.lookup f6 = some ⟨oc6, od6, .func (PySem.W.fnOf "code_text" "code_text" (defArgs s_code_text) (defBody s_code_text) (defScope s_code_text) .none kV6 dc6 pm6 an6 cd6 ct6), sl6⟩) (c6 : PySem.W.codeIn K cd6 "code_text" = true) (k6 : PySem.W.keepIn K (.ref f6) = true)
    (a7 : PySem.W.nsIn K mainGlobals "_law_written" = some (some (.ref f7))) (l7 : K.lookup f7 = some ⟨oc7, od7, .func (PySem.W.fnOf "_law_written" "_law_written" (defArgs s_law_written) (defBody s_law_written) (defScope s_law_written) .none kV7 dc7 pm7 an7 cd7 ct7), sl7⟩) (c7 : PySem.W.codeIn K cd7 "_law_written" = true) (k7 : PySem.W.keepIn K (.ref f7) = true)
    (a8 : PySem.W.nsIn K mainGlobals "_law_loose" = some (some (.ref f8))) (l8 : K.lookup f8 = some ⟨oc8, od8, .func (PySem.W.fnOf "_law_loose" "_law_loose" (defArgs s_law_loose) (defBody s_law_loose) (defScope s_law_loose) .none kV8 dc8 pm8 an8 cd8 ct8), sl8⟩) (c8 : PySem.W.codeIn K cd8 "_law_loose" = true) (k8 : PySem.W.keepIn K (.ref f8) = true)
    (a9 : PySem.W.nsIn K mainGlobals "is_word" = some (some (.ref f9))) (l9 : K.lookup f9 = some ⟨oc9, od9, .func (PySem.W.fnOf "is_word" "is_word" (defArgs s_is_word) (defBody s_is_word) (defScope s_is_word) .none kV9 dc9 pm9 an9 cd9 ct9), sl9⟩) (c9 : PySem.W.codeIn K cd9 "is_word" = true) (k9 : PySem.W.keepIn K (.ref f9) = true)
    (a10 : PySem.W.nsIn K mainGlobals "read_code" = some (some (.ref f10))) (l10 : K.lookup f10 = some ⟨oc10, od10, .func (PySem.W.fnOf "read_code" "read_code" (defArgs s_read_code) (defBody s_read_code) (defScope s_read_code) .none kV10 dc10 pm10 an10 cd10 ct10), sl10⟩) (c10 : PySem.W.codeIn K cd10 "read_code" = true) (k10 : PySem.W.keepIn K (.ref f10) = true)
    (a11 : PySem.W.nsIn K mainGlobals "_law_piece" = some (some (.ref f11))) (l11 : K.lookup f11 = some ⟨oc11, od11, .func (PySem.W.fnOf "_law_piece" "_law_piece" (defArgs s_law_piece) (defBody s_law_piece) (defScope s_law_piece) .none kV11 dc11 pm11 an11 cd11 ct11), sl11⟩) (c11 : PySem.W.codeIn K cd11 "_law_piece" = true) (k11 : PySem.W.keepIn K (.ref f11) = true)
    (a12 : PySem.W.nsIn K mainGlobals "read_code" = some (some (.ref f12))) (l12 : K.lookup f12 = some ⟨oc12, od12, .func (PySem.W.fnOf "read_code" "read_code" (defArgs s_read_code_r) (defBody s_read_code_r) (defScope s_read_code_r) .none kV12 dc12 pm12 an12 cd12 ct12), sl12⟩) (c12 : PySem.W.codeIn K cd12 "read_code" = true) (k12 : PySem.W.keepIn K (.ref f12) = true)
    (a13 : PySem.W.nsIn K mainGlobals "_law_refused" = some (some (.ref f13))) (l13 : K.lookup f13 = some ⟨oc13, od13, .func (PySem.W.fnOf "_law_refused" "_law_refused" (defArgs s_law_refused) (defBody s_law_refused) (defScope s_law_refused) .none kV13 dc13 pm13 an13 cd13 ct13), sl13⟩) (c13 : PySem.W.codeIn K cd13 "_law_refused" = true) (k13 : PySem.W.keepIn K (.ref f13) = true)
    (a14 : PySem.W.nsIn K mainGlobals "law" = some (some (.ref f14))) (l14 : K.lookup f14 = some ⟨oc14, od14, .func (PySem.W.fnOf "law" "law" (defArgs s_law_k14) (defBody s_law_k14) (defScope s_law_k14) .none kV14 dc14 pm14 an14 cd14 ct14), sl14⟩) (c14 : PySem.W.codeIn K cd14 "law" = true) (k14 : PySem.W.keepIn K (.ref f14) = true)
    (z_len : PySem.W.nsIn K mainGlobals "len" = some none)
    (z_min : PySem.W.nsIn K mainGlobals "min" = some none)
    (z_max : PySem.W.nsIn K mainGlobals "max" = some none)
    (z_range : PySem.W.nsIn K mainGlobals "range" = some none)
    (z_reversed : PySem.W.nsIn K mainGlobals "reversed" = some none)
    (z_enumerate : PySem.W.nsIn K mainGlobals "enumerate" = some none)
    (z_isinstance : PySem.W.nsIn K mainGlobals "isinstance" = some none)
    (z_bool : PySem.W.nsIn K mainGlobals "bool" = some none)
    (z_list : PySem.W.nsIn K mainGlobals "list" = some none)
    {tk_SIGNS : Tok}  (q_SIGNS : PySem.W.nsIn K mainGlobals "SIGNS" = some (some (.str "0123456789abcdef" tk_SIGNS)))
    {tk_IN_A_ROW : Tok}  (q_IN_A_ROW : PySem.W.nsIn K mainGlobals "IN_A_ROW" = some (some (.int 8 tk_IN_A_ROW)))
    : ∃ fd : FuncData, (∀ (s : Shared) (v : Value), BindsTo s fd ⟨[v], []⟩ [("_law_script", v)]) ∧ ∀ base : Heap, K.In base → base.Ns mainGlobals mg → FnOk l.prog w K mg base CX0 5 fa fd ["_law_script"] (spAny K (fun _ => F0) 1 g_law_k14) := by
  have e := hfa.symm.trans (PySem.W.mg_of X G a14)
  cases e
  obtain ⟨cl, ec_FenceError, ec_NoText, ec_NotWithin, ec_NoGuest, ec_TooLong⟩ : ∃ cl : Str → Addr, cl "FenceError" = E_FenceError ∧ cl "NoText" = E_NoText ∧ cl "NotWithin" = E_NotWithin ∧ cl "NoGuest" = E_NoGuest ∧ cl "TooLong" = E_TooLong := ⟨fun x => if x = "FenceError" then E_FenceError else if x = "NoText" then E_NoText else if x = "NotWithin" then E_NotWithin else if x = "NoGuest" then E_NoGuest else if x = "TooLong" then E_TooLong else 0, if_pos rfl, (if_neg (by decide +kernel)).trans (if_pos rfl), (if_neg (by decide +kernel)).trans ((if_neg (by decide +kernel)).trans (if_pos rfl)), (if_neg (by decide +kernel)).trans ((if_neg (by decide +kernel)).trans ((if_neg (by decide +kernel)).trans (if_pos rfl))), (if_neg (by decide +kernel)).trans ((if_neg (by decide +kernel)).trans ((if_neg (by decide +kernel)).trans ((if_neg (by decide +kernel)).trans (if_pos rfl))))⟩
  subst ec_FenceError
  subst ec_NoText
  subst ec_NotWithin
  subst ec_NoGuest
  subst ec_TooLong
  have mE_FenceError := PySem.W.mg_of X G aE_FenceError
  have mE_NoText := PySem.W.mg_of X G aE_NoText
  have mE_NotWithin := PySem.W.mg_of X G aE_NotWithin
  have mE_NoGuest := PySem.W.mg_of X G aE_NoGuest
  have mE_TooLong := PySem.W.mg_of X G aE_TooLong
  have T : Tx K w.params mg cl := ⟨PySem.W.mg_none_of X G z_len, PySem.W.mg_none_of X G z_min, PySem.W.mg_none_of X G z_max, PySem.W.mg_none_of X G z_range, PySem.W.mg_none_of X G z_reversed, PySem.W.mg_none_of X G z_enumerate, PySem.W.mg_none_of X G z_isinstance, PySem.W.mg_none_of X G z_bool, PySem.W.mg_none_of X G z_list, kg_of (PySem.W.mg_of X G q_SIGNS) kv_str, kg_of (PySem.W.mg_of X G q_IN_A_ROW) kv_int, mE_FenceError, PySem.W.exm_ref xb_FenceError xh_FenceError xt_FenceError xs_FenceError_NoText, mE_NoText, mE_NotWithin, mE_NoGuest, mE_TooLong, ⟨yg_NoText, yk_NoText, yu_NoText, yd_NoText, ya_NoText, yn_NoText, yw_NoText, ym_NoText⟩, ix_NoText_TooLong, ix_NoText_NoGuest, ix_NoText_NotWithin, ix_NoText_NoText, jx_NoText_line⟩
  refine ⟨PySem.W.fnOf "law" "law" (defArgs s_law_k14) (defBody s_law_k14) (defScope s_law_k14) .none kV14 dc14 pm14 an14 cd14 ct14, fun s v => .of_eq rfl, fun base _ _ => FnOk.imp (sp := spOf K cl (fun _ => F0) 1 g_law_k14) ?_ fun vs H Q E h => h cl⟩
  have FI_NoText := fun_mk (st := s_NoText_init) li_NoText ci_NoText ki_NoText
  have bI_NoText := FI_NoText.binds (ps := ["self", "line"]) fun _ _ _ _ _ _ us hl => match us, hl with | [_, _], _ => rfl
  have T_NoText := oex_mk ox_NoText rv_NoText sx_NoText bx_NoText tx_NoText kx_NoText
  have F0 := fun_mk (st := s_law_many) l0 c0 k0
  have b0 := F0.binds (ps := ["_law_script"]) fun _ _ _ _ _ _ us hl => match us, hl with | [_], _ => rfl
  have d__law_many : Df (wz l.prog w K mg base cl) "_law_many" 1 1 g_law_many := ok_law_many T    F0 (PySem.W.mg_of X G a0) b0
  have F1 := fun_mk (st := s_law_draw) l1 c1 k1
  have b1 := F1.binds (ps := ["_law_deal_here", "_law_many_here"]) fun _ _ _ _ _ _ us hl => match us, hl with | [_, _], _ => rfl
  have d__law_draw : Df (wz l.prog w K mg base cl) "_law_draw" 1 2 g_law_draw := ok_law_draw T    F1 (PySem.W.mg_of X G a1) b1
  have F2 := fun_mk (st := s_law_deal) l2 c2 k2
  have b2 := F2.binds (ps := ["_law_script", "_law_k"]) fun _ _ _ _ _ _ us hl => match us, hl with | [_, _], _ => rfl
  have d__law_deal : Df (wz l.prog w K mg base cl) "_law_deal" 1 2 g_law_deal := ok_law_deal T    F2 (PySem.W.mg_of X G a2) b2
  have F3 := fun_mk (st := s_law_signs) l3 c3 k3
  have b3 := F3.binds (ps := ["_law_word"]) fun _ _ _ _ _ _ us hl => match us, hl with | [_], _ => rfl
  have d__law_signs : Df (wz l.prog w K mg base cl) "_law_signs" 1 1 g_law_signs := ok_law_signs T    F3 (PySem.W.mg_of X G a3) b3
  have F4 := fun_mk (st := s_rest) l4 c4 k4
  have b4 := F4.binds (ps := ["v", "bits"]) fun _ _ _ _ _ _ us hl => match us, hl with | [_, _], _ => rfl
  have d_rest : Df (wz l.prog w K mg base cl) "rest" 1 2 g_rest := ok_rest T    F4 (PySem.W.mg_of X G a4) b4
  have F5 := fun_mk (st := s_word_text) l5 c5 k5
  have b5 := F5.binds (ps := ["word"]) fun _ _ _ _ _ _ us hl => match us, hl with | [_], _ => rfl
  have d_word_text : Df (wz l.prog w K mg base cl) "word_text" 2 1 g_word_text := ok_word_text T d_rest   F5 (PySem.W.mg_of X G a5) b5
  have F6 := fun_mk (st := s_code_text) l6 c6 k6
  have b6 := F6.binds (ps := ["code"]) fun _ _ _ _ _ _ us hl => match us, hl with | [_], _ => rfl
  have d_code_text : Df (wz l.prog w K mg base cl) "code_text" 3 1 g_code_text := ok_code_text T d_word_text   F6 (PySem.W.mg_of X G a6) b6
  have F7 := fun_mk (st := s_law_written) l7 c7 k7
  have b7 := F7.binds (ps := ["_law_code"]) fun _ _ _ _ _ _ us hl => match us, hl with | [_], _ => rfl
  have d__law_written : Df (wz l.prog w K mg base cl) "_law_written" 2 1 g_law_written := ok_law_written T d__law_signs   F7 (PySem.W.mg_of X G a7) b7
  have F8 := fun_mk (st := s_law_loose) l8 c8 k8
  have b8 := F8.binds (ps := ["_law_script", "_law_pieces"]) fun _ _ _ _ _ _ us hl => match us, hl with | [_, _], _ => rfl
  have d__law_loose : Df (wz l.prog w K mg base cl) "_law_loose" 2 2 g_law_loose_1 := ok_law_loose T d__law_draw d__law_deal   F8 (PySem.W.mg_of X G a8) b8
  have F9 := fun_mk (st := s_is_word) l9 c9 k9
  have b9 := F9.binds (ps := ["piece"]) fun _ _ _ _ _ _ us hl => match us, hl with | [_], _ => rfl
  have d_is_word : Df (wz l.prog w K mg base cl) "is_word" 1 1 g_is_word_1 := ok_is_word T    F9 (PySem.W.mg_of X G a9) b9
  have F10 := fun_mk (st := s_read_code) l10 c10 k10
  have b10 := F10.binds (ps := ["text"]) fun _ _ _ _ _ _ us hl => match us, hl with | [_], _ => rfl
  have d_read_code : Df (wz l.prog w K mg base cl) "read_code" 2 1 g_read_code := ok_read_code T d_is_word   F10 (PySem.W.mg_of X G a10) b10
  have F11 := fun_mk (st := s_law_piece) l11 c11 k11
  have b11 := F11.binds (ps := ["_law_deal_here"]) fun _ _ _ _ _ _ us hl => match us, hl with | [_], _ => rfl
  have d__law_piece : Df (wz l.prog w K mg base cl) "_law_piece" 2 1 g_law_piece := ok_law_piece T d__law_signs d__law_draw   F11 (PySem.W.mg_of X G a11) b11
  have F12 := fun_mk (st := s_read_code_r) l12 c12 k12
  have b12 := F12.binds (ps := ["text"]) fun _ _ _ _ _ _ us hl => match us, hl with | [_], _ => rfl
  have d_read_code_r : Df (wr l.prog w K mg base cl) "read_code" 3 1 g_read_code_r := ok_read_code_r T d_is_word ⟨T_NoText, mE_NoText, _, _, _, fi_NoText, ti_NoText, bI_NoText, ok_NoText_init mE_FenceError ⟨rd_FenceError, ga_FenceError⟩ vi_FenceError T_NoText nx_NoText_line FI_NoText⟩  F12 (PySem.W.mg_of X G a12) b12
  have F13 := fun_mk (st := s_law_refused) l13 c13 k13
  have b13 := F13.binds (ps := ["_law_text"]) fun _ _ _ _ _ _ us hl => match us, hl with | [_], _ => rfl
  have d__law_refused : Df (wz l.prog w K mg base cl) "_law_refused" 4 1 g_law_refused_1 := ok_law_refused T d_read_code_r   F13 (PySem.W.mg_of X G a13) b13
  exact ok_law T d__law_many d__law_draw d__law_deal d__law_signs d_code_text d__law_written d__law_loose d_read_code d__law_piece d__law_refused (fun_mk (st := s_law_k14) l14 c14 k14)
theorem walk {l : PySem.W.OpenLaw} {q : Program} {loose : List Str} {XP : (Str → Option Value) → Heap → Prop} {YP : World → Heap → Prop} {d : DefRec} {K : Params → PySem.W.Frag} (hn : l.most = some 63) (hdf : d.params.defaults = [])
    (hY : ∀ (w : World) (h : Heap), YP w h → (K w.params).In h) (hlaw : ∀ ns : List Int, ns.length ≤ 63 → ∃ t, g_law_k14 [.lst (ns.map D.int)] [] = .ok (.bl true) t)
    (F : ∀ (w : World) (mg : Str → Option Value) (fa : Addr) (h : Heap), (K w.params).In h → h.Ns mainGlobals mg → mg d.name = some (.ref fa) →
      ∃ fd : FuncData, (∀ (s : Shared) (u : Value), BindsTo s fd ⟨[u], []⟩ [("_law_script", u)]) ∧ ∀ base : Heap, (K w.params).In base → base.Ns mainGlobals mg → FnOk l.prog w (K w.params) mg base CX0 5 fa fd ["_law_script"] (spAny (K w.params) (fun _ => F0) 1 g_law_k14)) :
    PySem.W.WalkO q loose XP YP l.row.toRowW d [] (fun f vs => PySem.call f vs) :=
  L2.walk_of (n := 63) (k := 5) (x := "_law_script") (CX := fun _ => CX0) (sp := fun w => spAny (K w.params) (fun _ => F0) 1 g_law_k14) hn (by decide) hdf ⟨rfl, by decide, by decide⟩ hY F (fun _ _ a ns hl hO hS cl => law_sp hlaw hl hO hS) fun _ _ _ _ _ z => z
end Lk14

open PySem PySem.W PyProof.Rows in
set_option maxRecDepth 100000 in
set_option maxHeartbeats 0 in
theorem PySem.Challenge.cw_fencemask_k14_code_as_text_holds : PySem.Challenge.rw_fencemask_k14_code_as_text.Holds := by
  w_on; o_law; k_head; (case hw => w_witness2)
  k_fill
  refine Lk14.walk (l := PySem.Challenge.rw_fencemask_k14_code_as_text) rfl rfl (fun w h Y => PySem.W.kIn_of Y) P.law_true_k14 ?F
  case F =>
    intro w mg fa h KX G hmg
    refine' Lk14.all_mk KX G hmg ?aE_FenceError ?aE_NoText ?aE_NotWithin ?aE_NoGuest ?aE_TooLong ?xb_FenceError ?xh_FenceError ?xt_FenceError ?xs_FenceError_NoText ?yg_NoText ?yk_NoText ?yu_NoText ?yd_NoText ?ya_NoText ?yn_NoText ?yw_NoText ?ym_NoText ?ix_NoText_TooLong ?ix_NoText_NoGuest ?ix_NoText_NotWithin ?ix_NoText_NoText ?jx_NoText_line ?rd_FenceError ?ga_FenceError ?vi_FenceError ?ox_NoText ?rv_NoText ?sx_NoText ?bx_NoText ?tx_NoText ?kx_NoText ?nx_NoText_line ?fi_NoText ?ti_NoText ?li_NoText ?ci_NoText ?ki_NoText ?a0 ?l0 ?c0 ?k0 ?a1 ?l1 ?c1 ?k1 ?a2 ?l2 ?c2 ?k2 ?a3 ?l3 ?c3 ?k3 ?a4 ?l4 ?c4 ?k4 ?a5 ?l5 ?c5 ?k5 ?a6 ?l6 ?c6 ?k6 ?a7 ?l7 ?c7 ?k7 ?a8 ?l8 ?c8 ?k8 ?a9 ?l9 ?c9 ?k9 ?a10 ?l10 ?c10 ?k10 ?a11 ?l11 ?c11 ?k11 ?a12 ?l12 ?c12 ?k12 ?a13 ?l13 ?c13 ?k13 ?a14 ?l14 ?c14 ?k14 ?z_len ?z_min ?z_max ?z_range ?z_reversed ?z_enumerate ?z_isinstance ?z_bool ?z_list ?q_SIGNS ?q_IN_A_ROW
    (case aE_FenceError => k_is)
    (case aE_NoText => k_is)
    (case aE_NotWithin => k_is)
    (case aE_NoGuest => k_is)
    (case aE_TooLong => k_is)
    (case xb_FenceError => k_is)
    (case xh_FenceError => k_is)
    (case xt_FenceError => k_is)
    (case xs_FenceError_NoText => k_is)
    (case yg_NoText => k_is)
    (case yk_NoText => k_is)
    (case yu_NoText => k_is)
    (case yd_NoText => k_is)
    (case ya_NoText => k_is)
    (case yn_NoText => k_is)
    (case yw_NoText => k_is)
    (case ym_NoText => k_is)
    (case ix_NoText_TooLong => kit_is)
    (case ix_NoText_NoGuest => kit_is)
    (case ix_NoText_NotWithin => kit_is)
    (case ix_NoText_NoText => kit_is)
    (case jx_NoText_line => k_is)
    (case rd_FenceError => k_is)
    (case ga_FenceError => k_is)
    (case vi_FenceError => k_is)
    (case ox_NoText => k_is)
    (case rv_NoText => decide +kernel)
    (case sx_NoText => k_is)
    (case bx_NoText => k_is)
    (case tx_NoText => k_is)
    (case kx_NoText => k_is)
    (case nx_NoText_line => k_is)
    (case fi_NoText => k_is)
    (case ti_NoText => k_is)
    (case li_NoText => k_is)
    (case ci_NoText => k_is)
    (case ki_NoText => k_is)
    (case a0 => k_is)
    (case l0 => k_is)
    (case c0 => k_is)
    (case k0 => k_is)
    (case a1 => k_is)
    (case l1 => k_is)
    (case c1 => k_is)
    (case k1 => k_is)
    (case a2 => k_is)
    (case l2 => k_is)
    (case c2 => k_is)
    (case k2 => k_is)
    (case a3 => k_is)
    (case l3 => k_is)
    (case c3 => k_is)
    (case k3 => k_is)
    (case a4 => k_is)
    (case l4 => k_is)
    (case c4 => k_is)
    (case k4 => k_is)
    (case a5 => k_is)
    (case l5 => k_is)
    (case c5 => k_is)
    (case k5 => k_is)
    (case a6 => k_is)
    (case l6 => k_is)
    (case c6 => k_is)
    (case k6 => k_is)
    (case a7 => k_is)
    (case l7 => k_is)
    (case c7 => k_is)
    (case k7 => k_is)
    (case a8 => k_is)
    (case l8 => k_is)
    (case c8 => k_is)
    (case k8 => k_is)
    (case a9 => k_is)
    (case l9 => k_is)
    (case c9 => k_is)
    (case k9 => k_is)
    (case a10 => k_is)
    (case l10 => k_is)
    (case c10 => k_is)
    (case k10 => k_is)
    (case a11 => k_is)
    (case l11 => k_is)
    (case c11 => k_is)
    (case k11 => k_is)
    (case a12 => k_is)
    (case l12 => k_is)
    (case c12 => k_is)
    (case k12 => k_is)
    (case a13 => k_is)
    (case l13 => k_is)
    (case c13 => k_is)
    (case k13 => k_is)
    (case a14 => k_is)
    (case l14 => k_is)
    (case c14 => k_is)
    (case k14 => k_is)
    (case z_len => k_is)
    (case z_min => k_is)
    (case z_max => k_is)
    (case z_range => k_is)
    (case z_reversed => k_is)
    (case z_enumerate => k_is)
    (case z_isinstance => k_is)
    (case z_bool => k_is)
    (case z_list => k_is)
    (case q_SIGNS => k_is)
    (case q_IN_A_ROW => k_is)
#print axioms PySem.Challenge.cw_fencemask_k14_code_as_text_holds
