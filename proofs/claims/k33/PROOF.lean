import PyProof.Rows.All
import Wide.All
import OpenK.AllK
import Wide.FinOn
import HandS.ForMost
import HandS.Wide
import HandS.IsInst
import HandS.TupAny
import HandS.TupMul
import HandS.NoneIn
import HandS.Style
import HandS.WideBits
import HandS.CallSlots
import HandS.Zip
import KE.GoesNew
import KE.GoesMore
import KE.GoesEnumKw
import HandS.Exc
import HandS.WordsExc
import HandS.More
import HandS.Strs
import HandS.Dict
import HandS.Small
import HandS.DictComp
import HandS.Iter
import KE.KEqNest
import HandS.Finally
import PySem.Challenge.RW_fencemask_k33_gates_and_replies
set_option Elab.async false
set_option linter.all false
set_option maxRecDepth 100000
set_option maxHeartbeats 4000000
/-! G, the data level: values by themselves, a store of changing objects, one combinator for each construct, and their wp. -/
namespace G
open PySem L2

inductive D where
  | non | bl (b : Bool) | int (i : Int) | str (x : Str) | tup (ds : List D) | lst (ds : List D) | box (j : Nat)
inductive MO where
  | lst (ds : List D) | dk (kvs : List (Key × D)) | fd (kvs : List (Key × D)) | dt (kvs : List (List Key × D)) | ins (c : Str) (fs : List (Str × D))
abbrev Sto := List MO
inductive R (α : Type) where
  | ok (a : α) (m : Sto) | ex (c : Str) (fs : List (Str × D)) (m : Sto) | no
abbrev Cm (α : Type) := Sto → R α
def bnd {α β : Type} (m : Cm α) (f : α → Cm β) : Cm β := fun s => match m s with
  | .ok a t => f a t
  | .ex c fs t => .ex c fs t
  | .no => .no
def ret {α : Type} (a : α) : Cm α := fun s => .ok a s
def noC {α : Type} : Cm α := fun _ => .no
def alloc (o : MO) : Cm D := fun s => .ok (.box s.length) (s ++ [o])

/-! ### slots -/
abbrev En := List (Option D)
def sl : En → Nat → Option D
  | [], _ => none
  | x :: _, 0 => x
  | _ :: r, n + 1 => sl r n
def st : En → Nat → Option D → En
  | [], _, _ => []
  | _ :: r, 0, d => d :: r
  | x :: r, n + 1, d => x :: st r n d
theorem sl_0 {x : Option D} {r : En} : sl (x :: r) 0 = x := rfl
theorem sl_s {x : Option D} {r : En} {n : Nat} : sl (x :: r) (n + 1) = sl r n := rfl
theorem st_0 {x d : Option D} {r : En} : st (x :: r) 0 d = d :: r := rfl
theorem st_s {x d : Option D} {r : En} {n : Nat} : st (x :: r) (n + 1) d = x :: st r n d := rfl
theorem sl_get : ∀ {e : En} {i : Nat} {d : D}, sl e i = some d ↔ e[i]? = some (some d)
  | [], i, d => by simp [sl]
  | x :: r, 0, d => by simp [sl]
  | x :: r, n + 1, d => by rw [sl_s, sl_get]; simp
theorem st_len : ∀ {e : En} {i : Nat} {d : Option D}, (st e i d).length = e.length
  | [], i, d => rfl
  | x :: r, 0, d => rfl
  | x :: r, n + 1, d => by simp [st, st_len]
theorem st_set : ∀ {e : En} {i : Nat} {d : Option D}, st e i d = e.set i d
  | [], i, d => by simp [st]
  | x :: r, 0, d => rfl
  | x :: r, n + 1, d => by rw [st_s, st_set]; rfl
def wipeE (e : En) : List Nat → En
  | [] => e
  | v :: vs => st (wipeE e vs) v none

/-! ### operators -/
abbrev CE := En → Cm D
abbrev CT := En → Cm Bool
abbrev CA := En → Cm (List D)
def mulOk (i j : Int) : Prop := (-(2 ^ 64) < i ∧ i < 2 ^ 64) ∨ (-(2 ^ 64) < j ∧ j < 2 ^ 64)
instance {i j : Int} : Decidable (mulOk i j) := by unfold mulOk; infer_instance
def big : Nat := 1000000
def lAt (s : Sto) (j : Nat) : Option (List D) := match s[j]? with
  | some (.lst ds) => some ds
  | _ => none
/-- what of a value is a list's or a tuple's items -/
def itemsOf (s : Sto) : D → Option (List D)
  | .tup ds => some ds
  | .lst ds => some ds
  | .box j => lAt s j
  | _ => none
/-- a text's signs -/
def chars (z : Str) : List D := z.cps.toList.map fun c => .str ⟨#[c]⟩
/-- what is walked, or asked for by place -/
def rowOf (s : Sto) (d : D) : Option (List D) := match d with
  | .str z => if z.length ≤ big then some (chars z) else none
  | d => itemsOf s d
def dAdd : D → D → Cm D
  | .int i, .int j => ret (.int (i + j))
  | .str x, .str y => if x.length + y.length ≤ big then ret (.str (x ++ y)) else noC
  | .tup xs, .tup ys => if xs.length + ys.length ≤ big then ret (.tup (xs ++ ys)) else noC
  | .box a, .box b => fun s => match lAt s a, lAt s b with
    | some xs, some ys => if xs.length + ys.length ≤ big then alloc (.lst (xs ++ ys)) s else .no
    | _, _ => .no
  | _, _ => noC
/-- += of ints -/
def iAdd : D → D → Cm D
  | .int i, .int j => ret (.int (i + j))
  | _, _ => noC
def dSub : D → D → Cm D
  | .int i, .int j => ret (.int (i - j))
  | _, _ => noC
def dMul : D → D → Cm D
  | .int i, .int j => if mulOk i j then ret (.int (i * j)) else noC
  | .tup xs, .int k => if xs ≠ [] ∧ 2 ≤ k ∧ k ≤ 1000 ∧ xs.length ≤ 1000 then ret (.tup (List.replicate k.toNat xs).flatten) else noC
  | .box a, .int k => fun s => match lAt s a with
    | some xs => if -(2 ^ 62) < k ∧ k < 2 ^ 62 ∧ xs.length * k.toNat ≤ big then alloc (.lst (List.replicate k.toNat xs).flatten) s else .no
    | _ => .no
  | _, _ => noC
def dDiv : D → D → Cm D
  | .int i, .int j => if 0 < j ∧ j < 2 ^ 128 then ret (.int (i / j)) else noC
  | _, _ => noC
def dMod : D → D → Cm D
  | .int i, .int j => if 0 < j then ret (.int (i % j)) else noC
  | _, _ => noC
def dPow : D → D → Cm D
  | .int i, .int j => if 0 ≤ j ∧ j ≤ 1000000 ∧ -(2 ^ 64) < i ∧ i < 2 ^ 64 then ret (.int (i ^ j.toNat)) else noC
  | _, _ => noC
def dShl : D → D → Cm D
  | .int i, .int j => if 0 ≤ j ∧ j ≤ 1000000 ∧ -(2 ^ 64) < i ∧ i < 2 ^ 64 then ret (.int (i * 2 ^ j.toNat)) else noC
  | _, _ => noC
def dShr : D → D → Cm D
  | .int i, .int j => if 0 ≤ j then ret (.int (i / 2 ^ j.toNat)) else noC
  | _, _ => noC
def dAnd : D → D → Cm D
  | .int i, .int j => ret (.int (Builtin.bitAnd i j))
  | _, _ => noC
def dOr : D → D → Cm D
  | .int i, .int j => ret (.int (Builtin.bitOr i j))
  | _, _ => noC
def dXor : D → D → Cm D
  | .int i, .int j => ret (.int (Builtin.bitXor i j))
  | _, _ => noC
def dNeg : D → Cm D
  | .int i => ret (.int (-i))
  | _ => noC

/-! ### comparisons -/
def dLt : D → D → Cm D
  | .int i, .int j => ret (.bl (decide (i < j)))
  | _, _ => noC
def dLe : D → D → Cm D
  | .int i, .int j => ret (.bl (decide (i ≤ j)))
  | _, _ => noC
def dGt : D → D → Cm D
  | .int i, .int j => ret (.bl (decide (j < i)))
  | _, _ => noC
def dGe : D → D → Cm D
  | .int i, .int j => ret (.bl (decide (j ≤ i)))
  | _, _ => noC
/-- == of values without a heap -/
def eqS : D → D → Option Bool
  | .non, .non => some true
  | .int i, .int j => some (decide (i = j))
  | .bl i, .bl j => some (decide (i = j))
  | .str i, .str j => some (decide (i = j))
  | .non, .int _ => some false | .int _, .non => some false | .non, .bl _ => some false | .bl _, .non => some false
  | .non, .str _ => some false | .str _, .non => some false | .int _, .str _ => some false | .str _, .int _ => some false
  | .bl _, .str _ => some false | .str _, .bl _ => some false
  | _, _ => none
def isNon : D → Bool
  | .non => true
  | _ => false
/-- is a value flat, and == of flat ones -/
def flatD : D → Bool
  | .non => true
  | .bl _ => true
  | .int _ => true
  | .str _ => true
  | _ => false
def eqD : D → D → Bool
  | .non, .non => true
  | .bl a, .bl b => a == b
  | .bl a, .int b => (if a then 1 else 0) == b
  | .int a, .bl b => a == (if b then 1 else 0)
  | .int a, .int b => a == b
  | .str a, .str b => a == b
  | _, _ => false
def inD (x : D) (xs : List D) : Bool := xs.any fun y => eqD y x

/-! ### expressions -/
def cK (d : D) : CE := fun _ => ret d
def cV (i : Nat) : CE := fun e => match sl e i with
  | some d => ret d
  | none => noC
def cBin (f : D → D → Cm D) (a b : CE) : CE := fun e => bnd (a e) fun x => bnd (b e) fun y => f x y
def cUn (f : D → Cm D) (a : CE) : CE := fun e => bnd (a e) f
def aNil : CA := fun _ => ret []
def aCons (a : CE) (r : CA) : CA := fun e => bnd (a e) fun x => bnd (r e) fun xs => ret (x :: xs)
def cTup (a : CA) : CE := fun e => bnd (a e) fun xs => if xs.length ≤ big then ret (.tup xs) else noC
def cLst (a : CA) : CE := fun e => bnd (a e) fun xs => if xs.length ≤ big then alloc (.lst xs) else noC
def cCall (g : List D → Cm D) (a : CA) : CE := fun e => bnd (a e) g
def tE (a : CE) : CT := fun e => bnd (a e) fun x => match x with
  | .bl b => ret b
  | _ => noC
def tNot' (t : CT) : CT := fun e => bnd (t e) fun b => ret (!b)
def tAnd' (t u : CT) : CT := fun e => bnd (t e) fun b => if b = true then u e else ret false
def tOr' (t u : CT) : CT := fun e => bnd (t e) fun b => if b = true then ret true else u e
/-- and, or, not as values, of bools -/
def cAnd (a b : CE) : CE := fun e => bnd (a e) fun x => match x with
  | .bl c => if c = true then b e else ret (.bl false)
  | _ => noC
def cOr (a b : CE) : CE := fun e => bnd (a e) fun x => match x with
  | .bl c => if c = true then ret (.bl true) else b e
  | _ => noC
def cNot (a : CE) : CE := fun e => bnd (a e) fun x => match x with
  | .bl c => ret (.bl (!c))
  | _ => noC
def cIf (t : CT) (a b : CE) : CE := fun e => bnd (t e) fun c => if c = true then a e else b e
/-- data to the depth n -/
def datL (f : D → Option PyData) : List D → Option (List PyData)
  | [] => some []
  | d :: ds => match f d, datL f ds with
    | some x, some xs => some (x :: xs)
    | _, _ => none
def datD (s : Sto) : Nat → D → Option PyData
  | 0, _ => none
  | _ + 1, .non => some .none
  | _ + 1, .bl b => some (.bool b)
  | _ + 1, .int i => some (.int i)
  | _ + 1, .str x => some (.str x)
  | n + 1, .tup ds => (datL (datD s n) ds).map .tuple
  | n + 1, .lst ds => (datL (datD s n) ds).map .list
  | n + 1, .box j => match lAt s j with
    | some ds => (datL (datD s n) ds).map .list
    | none => none
/-- == : of values without a heap, else of data -/
def eqX (s : Sto) (x y : D) : Option Bool := match eqS x y with
  | some b => some b
  | none => match datD s 9 x, datD s 9 y with
    | some d, some e => if SeqAt.shaped d = true ∧ SeqAt.shaped e = true then some (PyData.eqv d e) else none
    | _, _ => none
def dEq (x y : D) : Cm D := fun s => match eqX s x y with
  | some b => .ok (.bl b) s
  | none => .no
def dNe (x y : D) : Cm D := fun s => match eqX s x y with
  | some b => .ok (.bl (!b)) s
  | none => .no
/-- is, of two truths -/
def dIsB : D → D → Cm D
  | .bl a, .bl b => ret (.bl (decide (a = b)))
  | _, _ => noC
def dNotB : D → D → Cm D
  | .bl a, .bl b => ret (.bl (!decide (a = b)))
  | _, _ => noC
def dBits : D → Cm D
  | .int i => ret (.int (Builtin.Int.intBits i : Nat))
  | _ => noC
def cChain (f g : D → D → Cm D) (a b c : CE) : CE := fun e => bnd (a e) fun x => bnd (b e) fun y => bnd (f x y) fun z => match z with
  | .bl k => if k = true then bnd (c e) fun w => g y w else ret (.bl false)
  | _ => noC
def cChain3 (f g h : D → D → Cm D) (a b c d : CE) : CE := fun e => bnd (a e) fun x => bnd (b e) fun y => bnd (f x y) fun z => match z with
  | .bl k => if k = true then bnd (c e) fun w => bnd (g y w) fun z2 => match z2 with
    | .bl k2 => if k2 = true then bnd (d e) fun v => h w v else ret (.bl false)
    | _ => noC
    else ret (.bl false)
  | _ => noC
def dIsN (x : D) : Cm D := ret (.bl (isNon x))
def dNotN (x : D) : Cm D := ret (.bl (!isNon x))
def dIn (neg : Bool) (x y : D) : Cm D := fun s => match itemsOf s y with
  | some ys => if flatD x = true ∧ ys.all flatD = true then .ok (.bl (if neg then !inD x ys else inD x ys)) s else .no
  | none => .no
def dIx (x y : D) : Cm D := fun s => match rowOf s x, y with
  | some xs, .int i => match atI xs i with
    | some v => .ok v s
    | none => .no
  | _, _ => .no
def cutD (xs : List D) (lo hi : Option Int) : List D := (xs.drop (HT.sIx xs.length 0 lo)).take (HT.sIx xs.length xs.length hi - HT.sIx xs.length 0 lo)
abbrev CO := En → Cm (Option Int)
def oNone : CO := fun _ => ret none
def oSome (a : CE) : CO := fun e => bnd (a e) fun x => match x with
  | .int i => ret (some i)
  | _ => noC
/-- x[a:b] of a tuple (a value), of a list (a new one) -/
def dSl (x : D) (lo hi : Option Int) : Cm D := match x with
  | .tup xs => ret (.tup (cutD xs lo hi))
  | .lst xs => alloc (.lst (cutD xs lo hi))
  | .box j => fun s => match lAt s j with
    | some xs => alloc (.lst (cutD xs lo hi)) s
    | none => .no
  | _ => noC
def cSl (a : CE) (lo hi : CO) : CE := fun e => bnd (a e) fun x => bnd (lo e) fun l => bnd (hi e) fun h => dSl x l h
/-! built-ins by their arguments -/
def bLen : List D → Cm D
  | [x] => fun s => match itemsOf s x with
    | some xs => .ok (.int xs.length) s
    | none => match x with
      | .str z => if z.length ≤ big then .ok (.int z.length) s else .no
      | _ => .no
  | _ => noC
def bMax : List D → Cm D
  | [.int i, .int j] => ret (.int (if j > i then j else i))
  | _ => noC
def bMin : List D → Cm D
  | [.int i, .int j] => ret (.int (if j < i then j else i))
  | _ => noC
def bAbs : List D → Cm D
  | [.int i] => ret (.int (if i < 0 then -i else i))
  | _ => noC
def bInt : List D → Cm D
  | [.int i] => ret (.int i)
  | [.bl k] => ret (.int (if k then 1 else 0))
  | _ => noC
def bList : List D → Cm D
  | [x] => fun s => match itemsOf s x with
    | some xs => alloc (.lst xs) s
    | none => .no
  | _ => noC
def bTuple : List D → Cm D
  | [x] => fun s => match itemsOf s x with
    | some xs => .ok (.tup xs) s
    | none => .no
  | _ => noC
def isBl : D → Bool
  | .bl _ => true
  | _ => false
def blOf : D → Bool
  | .bl b => b
  | _ => true
def bAll : List D → Cm D
  | [.box j] => fun s => match lAt s j with
    | some xs => if xs.all isBl = true then .ok (.bl (xs.all blOf)) s else .no
    | none => .no
  | _ => noC
/-- isinstance of a value and a built-in class, by the classes' names -/
def tyD (s : Sto) : D → Option String
  | .non => some "NoneType"
  | .bl _ => some "bool"
  | .int _ => some "int"
  | .str _ => some "str"
  | .tup _ => some "tuple"
  | .lst _ => none
  | .box j => match s[j]? with
    | some (.lst _) => some "list"
    | some (.dk _) => some "dict"
    | some (.dt _) => some "dict"
    | _ => none
def dIsi (T : String) (x : D) : Cm D := fun s => match tyD s x with
  | some t => match L2.kitB t T with
    | some b => .ok (.bl b) s
    | none => .no
  | none => .no

def keyD : Key → D
  | .inl i => .int i
  | .inr x => .str x
/-! ### what is walked -/
inductive Src where
  | seq (d : D) | rng (lo : Int) (n : Nat) | zip (a b : D) | enum (k : Int) (d : D) | dkeys (j : Nat)
def rngD (lo : Int) (n : Nat) : List D := (List.range n).map fun (i : Nat) => D.int (lo + (i : Int))
def zipD : List D → List D → List D
  | x :: xs, y :: ys => .tup [x, y] :: zipD xs ys
  | _, _ => []
def enumD : Int → List D → List D
  | _, [] => []
  | i, x :: xs => .tup [.int i, x] :: enumD (i + 1) xs
def Src.items (s : Sto) : Src → Option (List D)
  | .seq d => rowOf s d
  | .rng lo n => some (rngD lo n)
  | .zip a b => match rowOf s a, rowOf s b with
    | some xs, some ys => some (zipD xs ys)
    | _, _ => none
  | .enum k d => match rowOf s d with
    | some xs => some (enumD k xs)
    | none => none
  | .dkeys j => match s[j]? with
    | some (.fd kvs) => some (kvs.map fun kv => keyD kv.1)
    | _ => none
abbrev CS' := En → Cm Src
def iSeq (a : CE) : CS' := fun e => bnd (a e) fun d s => match rowOf s d with
  | some _ => .ok (.seq d) s
  | none => .no
def iZip (a b : CE) : CS' := fun e => bnd (a e) fun c => bnd (b e) fun d s => match rowOf s c, rowOf s d with
  | some _, some _ => .ok (.zip c d) s
  | _, _ => .no
def iEnum (k : Int) (a : CE) : CS' := fun e => bnd (a e) fun d s => match rowOf s d with
  | some _ => .ok (.enum k d) s
  | none => .no
def iRng (a : CE) : CS' := fun e => bnd (a e) fun d => match d with
  | .int j => if -(2 ^ 62) ≤ j ∧ j < 2 ^ 62 then ret (.rng 0 j.toNat) else noC
  | _ => noC
def iRng2 (a b : CE) : CS' := fun e => bnd (a e) fun c => bnd (b e) fun d => match c, d with
  | .int i, .int j => if -(2 ^ 62) ≤ i ∧ i < 2 ^ 62 ∧ -(2 ^ 62) ≤ j ∧ j < 2 ^ 62 then ret (.rng i (j - i).toNat) else noC
  | _, _ => noC
inductive Tg where
  | v (i : Nat) | t (is : List Nat)
def stAll : En → List Nat → List D → Option En
  | e, [], [] => some e
  | e, i :: is, d :: ds => stAll (st e i (some d)) is ds
  | _, _, _ => none
def bindT : Tg → D → En → Option En
  | .v i, d, e => some (st e i (some d))
  | .t is, .tup ds, e => stAll e is ds
  | _, _, _ => none
/-- what raises is no run here -/
def pur {α : Type} (m : Cm α) : Cm α := fun s => match m s with
  | .ok a t => .ok a t
  | .ex _ _ _ => .no
  | .no => .no
open Classical in
/-- a list comprehension's turns -/
noncomputable def lcL (src : Src) (all : List D) (tg : Tg) (t : CT) (c : CE) (e : En) : List D → Cm (List D)
  | [] => fun s => if src.items s = some all then .ok [] s else .no
  | x :: r => fun s => if src.items s = some all then (match bindT tg x e with
      | some e' => bnd (pur (t e')) (fun b => if b = true then bnd (pur (c e')) (fun y => bnd (lcL src all tg t c e r) fun ys => ret (y :: ys)) else lcL src all tg t c e r) s
      | none => .no) else .no
noncomputable def cLcA (src : CS') (tg : Tg) (vs : List Nat) (t : CT) (c : CE) : CA := fun e => bnd (src e) fun w s => match w.items s with
  | some all => if all.length ≤ big then lcL w all tg t c (wipeE e vs) all s else .no
  | none => .no
/-- a new list of what comes -/
def cNew (a : CA) : CE := fun e => bnd (a e) fun xs => alloc (.lst xs)
noncomputable def cLc (src : CS') (tg : Tg) (vs : List Nat) (t : CT) (c : CE) : CE := cNew (cLcA src tg vs t c)
/-! a list that nobody holds on to: what is asked of it at once -/
def cChk (a : CA) : CA := fun e => bnd (a e) fun xs => if xs.length ≤ big then ret xs else noC
def pickD (xs : List D) : D → Cm D
  | .int i => match atI xs i with
    | some v => ret v
    | none => noC
  | _ => noC
def cPick (a : CA) (b : CE) : CE := fun e => bnd (a e) fun xs => bnd (b e) fun y => pickD xs y
def inA (neg : Bool) (x : D) (ys : List D) : Cm D := if flatD x = true ∧ ys.all flatD = true then ret (.bl (if neg then !inD x ys else inD x ys)) else noC
def cInA (neg : Bool) (b : CE) (a : CA) : CE := fun e => bnd (b e) fun x => bnd (a e) fun ys => inA neg x ys
def cTp (a : CA) : CE := fun e => bnd (a e) fun xs => ret (.tup xs)
def cLn (a : CA) : CE := fun e => bnd (a e) fun xs => ret (.int xs.length)
def cAllA (a : CA) : CE := fun e => bnd (a e) fun xs => if xs.all isBl = true then ret (.bl (xs.all blOf)) else noC
def intsD : List D → Option (List Int)
  | [] => some []
  | .int i :: r => (intsD r).map (i :: ·)
  | _ :: _ => none
def maxD : List Int → Int
  | [] => 0
  | [x] => x
  | x :: r => max x (maxD r)
def sumA (xs : List D) : Cm D := match intsD xs with
  | some ns => ret (.int ns.sum)
  | none => noC
def maxA (xs : List D) : Cm D := match intsD xs with
  | some ns => if 0 < ns.length then ret (.int (maxD ns)) else noC
  | none => noC
def cSumA (a : CA) : CE := fun e => bnd (a e) sumA
def cMaxA (a : CA) : CE := fun e => bnd (a e) maxA

def tYesD : CT := fun _ => ret true
/-! ### statements -/
inductive Fl where
  | nx (e : En) | rt (d : D) | bk (e : En) | ct (e : En) | ex (c : Str) (fs : List (Str × D)) (e : En)
abbrev CS := En → Cm Fl
/-- an expression within a statement: what it raises leaves with the slots as they are -/
def lft {α : Type} (e : En) (m : Cm α) (k : α → Cm Fl) : Cm Fl := fun s => match m s with
  | .ok a t => k a t
  | .ex c fs t => .ok (.ex c fs e) t
  | .no => .no
def sNil : CS := fun e => ret (.nx e)
def sSeq (a b : CS) : CS := fun e => bnd (a e) fun fl => match fl with
  | .nx e' => b e'
  | .rt d => ret (.rt d)
  | .bk e' => ret (.bk e')
  | .ct e' => ret (.ct e')
  | .ex c fs e' => ret (.ex c fs e')
def sSet (i : Nat) (c : CE) : CS := fun e => lft e (c e) fun d => ret (.nx (st e i (some d)))
def sDrop (c : CE) : CS := fun e => lft e (c e) fun _ => ret (.nx e)
def sRet (c : CE) : CS := fun e => lft e (c e) fun d => ret (.rt d)
def sRetN : CS := fun _ => ret (.rt .non)
def sIf (t : CT) (a b : CS) : CS := fun e => lft e (t e) fun c => if c = true then a e else b e
def sBreak : CS := fun e => ret (.bk e)
def sCont : CS := fun e => ret (.ct e)
def sNever : CS := fun _ => noC
def sAug (i : Nat) (f : D → D → Cm D) (c : CE) : CS := fun e => match sl e i with
  | some x => lft e (c e) fun y => lft e (f x y) fun z => ret (.nx (st e i (some z)))
  | none => noC
/-- o[i] = v of a list -/
def dPutL (o i v : D) : Cm Unit := fun s => match o, i with
  | .box j, .int k => match lAt s j with
    | some ds => match ixN ds.length k with
      | some m => .ok () (s.set j (.lst (ds.set m v)))
      | none => .no
    | none => .no
  | _, _ => .no
def sPut (f : D → D → D → Cm Unit) (o i v : CE) : CS := fun e => lft e (v e) fun z => lft e (o e) fun x => lft e (i e) fun y => lft e (f x y z) fun _ => ret (.nx e)
/-- a, b, .. = x, y, .. with plain names -/
def sPar (is : List Nat) (c : CA) : CS := fun e => lft e (c e) fun ds => match stAll e is ds with
  | some e' => ret (.nx e')
  | none => noC
def sUnp (is : List Nat) (c : CE) : CS := fun e => lft e (c e) fun d => match d with
  | .tup ds => match stAll e is ds with
    | some e' => ret (.nx e')
    | none => noC
  | _ => noC
/-- o.append(v), o.extend(v), as expressions -/
def dApp : D → List D → Cm D
  | .box j, [v] => fun s => match lAt s j with
    | some ds => if ds.length < big then .ok .non (s.set j (.lst (ds ++ [v]))) else .no
    | none => .no
  | _, _ => noC
def dExt : D → List D → Cm D
  | .box j, [.box k] => fun s => match lAt s j, lAt s k with
    | some ds, some es => if ds.length + es.length ≤ big then .ok .non (s.set j (.lst (ds ++ es))) else .no
    | _, _ => .no
  | _, _ => noC
def dClear : D → List D → Cm D
  | .box j, [] => fun s => match lAt s j with
    | some _ => .ok .non (s.set j (.lst []))
    | none => .no
  | _, _ => noC
/-- the place of the first that is alike -/
def placeOf (x : D) (xs : List D) : Option Nat := xs.findIdx? fun y => eqD y x
def dIndexL : D → List D → Cm D
  | .box j, [y] => fun s => match lAt s j with
    | some xs => if flatD y = true ∧ xs.all flatD = true then (match placeOf y xs with
      | some k => .ok (.int k) s
      | none => .no) else .no
    | none => .no
  | _, _ => noC
def strsD : List D → Option (List Str)
  | [] => some []
  | .str x :: r => (strsD r).map (x :: ·)
  | _ :: _ => none
def dIndexT : D → List D → Cm D
  | .tup xs, [.str z] => match strsD xs with
    | some ys => (match ys.findIdx? fun y => decide (y = z) with
      | some k => ret (.int k)
      | none => noC)
    | none => noC
  | _, _ => noC
/-- d.index(e) of a tuple of written texts -/
def tupIx (ys : List Str) : D → Cm D
  | .str z => match ys.findIdx? fun y => decide (y = z) with
    | some k => ret (.int k)
    | none => noC
  | _ => noC
/-- a method of a tuple -/
def chkT : D → Cm Unit
  | .tup _ => ret ()
  | _ => noC
def cBmT (f : D → List D → Cm D) (o : CE) (a : CA) : CE := fun e => bnd (o e) fun x => bnd (chkT x) fun _ => bnd (a e) fun xs => f x xs
/-! the module's own tables: dicts with written texts as keys -/
def tabV (tbl : List (Str × D)) (z : Str) : Option D := (tbl.find? fun p => decide (p.1 = z)).map (·.2)
def tabIx (tbl : List (Str × D)) : D → Cm D
  | .str z => match tabV tbl z with
    | some d => ret d
    | none => noC
  | _ => noC
def tabIn (neg : Bool) (tbl : List (Str × D)) : D → Cm D
  | .str z => ret (.bl (if neg then !(tabV tbl z).isSome else (tabV tbl z).isSome))
  | _ => noC
def tabGet (tbl : List (Str × D)) : D → D → Cm D
  | .str z, d => ret ((tabV tbl z).getD d)
  | _, _ => noC
def chkL : D → Cm Unit
  | .box j => fun s => match lAt s j with
    | some _ => .ok () s
    | none => .no
  | _ => noC
def cBmL (f : D → List D → Cm D) (o : CE) (a : CA) : CE := fun e => bnd (o e) fun x => bnd (chkL x) fun _ => bnd (a e) fun xs => f x xs
open Classical in
noncomputable def forL (src : Src) (all : List D) (tg : Tg) (b : CS) : List D → En → Cm Fl
  | [], e => fun s => if src.items s = some all then .ok (.nx e) s else .no
  | x :: r, e => fun s => if src.items s = some all then (match bindT tg x e with
      | some e' => bnd (b e') (fun fl => match fl with
        | .nx e2 => forL src all tg b r e2
        | .ct e2 => forL src all tg b r e2
        | .bk e2 => ret (.nx e2)
        | .rt d => ret (.rt d)
        | .ex c fs e2 => ret (.ex c fs e2)) s
      | none => .no) else .no
noncomputable def sFor (src : CS') (tg : Tg) (b : CS) : CS := fun e => lft e (src e) fun w s => match w.items s with
  | some all => forL w all tg b all e s
  | none => .no
def whileN (t : CT) (b : CS) : Nat → En → Cm Fl
  | 0, _ => noC
  | n + 1, e => lft e (t e) fun c => if c = true then bnd (b e) (fun fl => match fl with
        | .nx e2 => whileN t b n e2
        | .ct e2 => whileN t b n e2
        | .bk e2 => ret (.nx e2)
        | .rt d => ret (.rt d)
        | .ex c fs e2 => ret (.ex c fs e2)) else ret (.nx e)
def turnsMost : Nat := 100000
def sWhile (t : CT) (b : CS) : CS := whileN t b turnsMost
/-- a def: its arguments into the first slots -/
def dfn (n m : Nat) (body : CS) : List D → Cm D := fun ds => if ds.length = n then
    bnd (body (ds.map some ++ List.replicate (m - n) none)) (fun fl => match fl with
      | .nx _ => ret .non
      | .rt d => ret d
      | .ex c fs _ => fun s => .ex c fs s
      | .bk _ => noC
      | .ct _ => noC) else noC
/-! ### own dicts with ints and texts as keys -/
def keyOf : D → Option Key
  | .int i => some (.inl i)
  | .str x => some (.inr x)
  | _ => none
abbrev CP := En → Cm (List (Key × D))
def pNil : CP := fun _ => ret []
def pCons (k v : CE) (r : CP) : CP := fun e => bnd (k e) fun x => bnd (v e) fun y => bnd (r e) fun ps => match keyOf x with
  | some q => ret ((q, y) :: ps)
  | none => noC
def putD (kvs : List (Key × D)) (k : Key) (v : D) : List (Key × D) :=
  if (kvs.any fun kv => decide (kv.1 = k)) = true then kvs.map (fun kv => if kv.1 = k then (kv.1, v) else kv) else kvs ++ [(k, v)]
def mergeD (kvs more : List (Key × D)) : List (Key × D) := more.foldl (fun acc kv => putD acc kv.1 kv.2) kvs
def endDisp (b : D) (ps : List (Key × D)) : Cm D := fun s => match b with
  | .box j => (match s[j]? with
    | some (.dk []) => if ps.length ≤ 15 then .ok b (s.set j (.dk (mergeD [] ps))) else .no
    | _ => .no)
  | _ => .no
def cDisp (a : CP) : CE := fun e => bnd (alloc (.dk [])) fun b => bnd (a e) fun ps => endDisp b ps
def valD (kvs : List (Key × D)) (k : Key) : Option D := (kvs.find? fun kv => decide (kv.1 = k)).map (·.2)
/-- a dict, to be read (locked or not); to be written -/
def dkAt (s : Sto) : D → Option (List (Key × D))
  | .box j => (match s[j]? with
    | some (.dk kvs) => some kvs
    | some (.fd kvs) => some kvs
    | _ => none)
  | _ => none
def dkWr (s : Sto) : D → Option (List (Key × D))
  | .box j => (match s[j]? with
    | some (.dk kvs) => some kvs
    | _ => none)
  | _ => none
def dIx2 (x y : D) : Cm D := fun s => match dkAt s x with
  | some kvs => (match keyOf y with
    | some k => (match valD kvs k with
      | some d => .ok d s
      | none => .no)
    | none => .no)
  | none => dIx x y s
def dPut2 (o i v : D) : Cm Unit := fun s => match dkWr s o, o with
  | some kvs, .box j => (match keyOf i with
    | some k => if kvs.length < big then .ok () (s.set j (.dk (putD kvs k v))) else .no
    | none => .no)
  | _, _ => dPutL o i v s
def chkD (x : D) : Cm Unit := fun s => match dkAt s x with
  | some _ => .ok () s
  | none => .no
def dGetD (x y z : D) : Cm D := fun s => match dkAt s x, keyOf y with
  | some kvs, some k => .ok ((valD kvs k).getD z) s
  | _, _ => .no
def cGetD (o k d : CE) : CE := fun e => bnd (o e) fun x => bnd (chkD x) fun _ => bnd (k e) fun y => bnd (d e) fun z => dGetD x y z
def dIn2 (neg : Bool) (x y : D) : Cm D := fun s => match dkAt s y with
  | some kvs => (match keyOf x with
    | some k => .ok (.bl (if neg then !(valD kvs k).isSome else (valD kvs k).isSome)) s
    | none => .no)
  | none => dIn neg x y s
/-! ### a, b, .. = a tuple or a list -/
def sUnp2 (is : List Nat) (c : CE) : CS := fun e => lft e (c e) fun d s => match itemsOf s d with
  | some ds => (match stAll e is ds with
    | some e' => .ok (.nx e') s
    | none => .no)
  | none => .no
/-! ### objects of the program's own classes -/
def objAt (c : Str) (s : Sto) : D → Option (List (Str × D))
  | .box j => (match s[j]? with
    | some (.ins c' fs) => if c' = c then some fs else none
    | _ => none)
  | _ => none
def lkF : List (Str × D) → Str → Option D
  | [], _ => none
  | (g, d) :: r, f => if g = f then some d else lkF r f
def putFD (f : Str) (v : D) : List (Str × D) → List (Str × D)
  | [] => [(f, v)]
  | (g, x) :: r => if g = f then (g, v) :: r else (g, x) :: putFD f v r
def dFld (c f : Str) (x : D) : Cm D := fun s => match objAt c s x with
  | some fs => (match lkF fs f with
    | some d => .ok d s
    | none => .no)
  | none => .no
def dSetF (c f : Str) (x v : D) : Cm Unit := fun s => match objAt c s x, x with
  | some fs, .box j => if fs.length < 1000 then .ok () (s.set j (.ins c (putFD f v fs))) else .no
  | _, _ => .no
def sFld (c f : Str) (o v : CE) : CS := fun e => lft e (v e) fun z => lft e (o e) fun x => lft e (dSetF c f x z) fun _ => ret (.nx e)
def chkO (c m : Str) (x : D) : Cm Unit := fun s => match objAt c s x with
  | some fs => if lkF fs m = none then .ok () s else .no
  | none => .no
def cMth (c m : Str) (g : List D → Cm D) (o : CE) (a : CA) : CE := fun e => bnd (o e) fun x => bnd (chkO c m x) fun _ => bnd (a e) fun xs => pur (g (x :: xs))
def retB (b : D) : D → Cm D
  | .non => ret b
  | _ => noC
def cMake (c : Str) (g : List D → Cm D) (a : CA) : CE := fun e => bnd (a e) fun xs => bnd (alloc (.ins c [])) fun b => bnd (pur (g (b :: xs))) (retB b)
/-! ### more of dicts -/
def cNewD : CE := fun _ => alloc (.dk [])
/-- dict(d) -/
def bDict : List D → Cm D
  | [x] => fun s => match dkAt s x with
    | some kvs => alloc (.dk kvs) s
    | none => .no
  | _ => noC
/-- d.update(e) -/
def dUpd (x y : D) : Cm D := fun s => match dkWr s x, dkAt s y, x, y with
  | some kvs, some more, .box i, .box j => if i ≠ j ∧ kvs.length + more.length ≤ big then .ok .non (s.set i (.dk (mergeD kvs more))) else .no
  | _, _, _, _ => .no
def cUpd (o k : CE) : CE := fun e => bnd (o e) fun x => bnd (chkD x) fun _ => bnd (k e) fun y => dUpd x y
/-- == of two dicts: where they are alike -/
def alikeD (ks ls : List (Key × D)) : Bool := decide (ks.length = ls.length) && ks.all fun p => match valD ls p.1 with
  | some d => flatD p.2 && decide (eqS d p.2 = some true)
  | none => false
def dEq2 (x y : D) : Cm D := fun s => match dkWr s x, dkWr s y with
  | some ks, some ls => if alikeD ks ls = true then .ok (.bl true) s else .no
  | _, _ => dEq x y s
def dNe2 (x y : D) : Cm D := fun s => match dkWr s x, dkWr s y with
  | some ks, some ls => if alikeD ks ls = true then .ok (.bl false) s else .no
  | _, _ => dNe x y s
/-! a loop over a dict's keys: the dict is locked meanwhile -/
def iKeysF (i : Nat) : CS' := fun e s => match sl e i with
  | some (.box j) => (match s[j]? with
    | some (.fd _) => .ok (.dkeys j) s
    | _ => .no)
  | _ => .no
open Classical in
noncomputable def sLock (i : Nat) (c : CS) : CS := fun e s => match sl e i with
  | some (.box j) => (match s[j]? with
    | some (.dk kvs) => (match c e (s.set j (.fd kvs)) with
      | .ok fl t => if t[j]? = some (.fd kvs) ∧ (∀ c fs e', fl ≠ .ex c fs e') then .ok fl (t.set j (.dk kvs)) else .no
      | _ => .no)
    | _ => .no)
  | _ => .no
open Classical in
noncomputable def cLock (i : Nat) (c : CE) : CE := fun e s => match sl e i with
  | some (.box j) => (match s[j]? with
    | some (.dk kvs) => (match c e (s.set j (.fd kvs)) with
      | .ok d t => if t[j]? = some (.fd kvs) then .ok d (t.set j (.dk kvs)) else .no
      | _ => .no)
    | _ => .no)
  | _ => .no
open Classical in
/-- the same of a list that nobody holds on to -/
noncomputable def aLock (i : Nat) (c : CA) : CA := fun e s => match sl e i with
  | some (.box j) => (match s[j]? with
    | some (.dk kvs) => (match c e (s.set j (.fd kvs)) with
      | .ok d t => if t[j]? = some (.fd kvs) then .ok d (t.set j (.dk kvs)) else .no
      | _ => .no)
    | _ => .no)
  | _ => .no
end G

set_option Elab.async false
set_option linter.all false
set_option maxRecDepth 100000
set_option maxHeartbeats 4000000
/-! G, soundness: what the data level's values are in the hand layer's heap, and that each combinator's run is the construct's. -/
namespace G
open PySem L2 PySem.Spec PyProof.Rows

/-! ### values -/
/-- the heap without the boxes -/
def hid (bs : List Addr) (H : Hp) : Hp := fun a => if a ∈ bs then none else H a
theorem hid_some {bs : List Addr} {H : Hp} {a : Addr} {o : HO} (h : hid bs H a = some o) : a ∉ bs ∧ H a = some o := by
  unfold hid at h
  split at h
  · cases h
  · exact ⟨by assumption, h⟩
theorem hid_of {bs : List Addr} {H : Hp} {a : Addr} {o : HO} (n : a ∉ bs) (h : H a = some o) : hid bs H a = some o := by
  unfold hid
  rw [if_neg n, h]
/-- a list that nobody changes: frozen, or of the written part -/
def FzL (K : PySem.W.Frag) (H : Hp) (a : Addr) (xs : List V) : Prop := (∃ o, H a = some (.frz o (.lst xs))) ∨
  ∃ (o : Obj) (its : Array Value) (n : Nat), K.lookup a = some o ∧ o.cls = .type "list" ∧ o.dict = none ∧ o.data = .seq its n ∧ its.size ≤ sizeLine ∧ Vals xs its.toList
theorem FzL.sq {K : PySem.W.Frag} {H : Hp} {a : Addr} {xs : List V} (h : FzL K H a xs) : SqL K H a xs := by
  rcases h with ⟨o, h⟩ | h
  · exact .inl (.inr ⟨o, h⟩)
  · exact .inr h
mutual
inductive Rp (K : PySem.W.Frag) (bs : List Addr) (H : Hp) : D → V → Prop
  | non : Rp K bs H .non .non
  | bl (b : Bool) : Rp K bs H (.bl b) (.bl b)
  | int (i : Int) : Rp K bs H (.int i) (.int i)
  | str (x : Str) : Rp K bs H (.str x) (.str x)
  | tup {ds : List D} {p : Addr} {vs : List V} (h : SqT K (hid bs H) p vs) (r : RpL K bs H ds vs) : Rp K bs H (.tup ds) (.ref p)
  | lst {ds : List D} {p : Addr} {vs : List V} (h : FzL K (hid bs H) p vs) (r : RpL K bs H ds vs) : Rp K bs H (.lst ds) (.ref p)
  | box {j : Nat} {p : Addr} (h : bs[j]? = some p) : Rp K bs H (.box j) (.ref p)
inductive RpL (K : PySem.W.Frag) (bs : List Addr) (H : Hp) : List D → List V → Prop
  | nil : RpL K bs H [] []
  | cons {d : D} {v : V} {ds : List D} {vs : List V} (h : Rp K bs H d v) (r : RpL K bs H ds vs) : RpL K bs H (d :: ds) (v :: vs)
end
/-- an object and what stands at its address; cl: where the classes stand -/
def FsR (K : PySem.W.Frag) (bs : List Addr) (H : Hp) : List (Str × D) → List (Str × V) → Prop := Paired fun (p : Str × D) (q : Str × V) => p.1 = q.1 ∧ Rp K bs H p.2 q.2
def KvR {κ : Type} (K : PySem.W.Frag) (bs : List Addr) (H : Hp) : List (κ × D) → List (κ × V) → Prop := Paired fun (p : κ × D) (q : κ × V) => p.1 = q.1 ∧ Rp K bs H p.2 q.2
def MoR (K : PySem.W.Frag) (cl : Str → Addr) (bs : List Addr) (H : Hp) : MO → HO → Prop
  | .lst ds, .lst vs => RpL K bs H ds vs
  | .dk ds, .dK vs => KvR K bs H ds vs
  | .fd ds, .frz _ (.dK vs) => KvR K bs H ds vs
  | .dt ds, .dT vs => KvR K bs H ds vs
  | .ins c fs, .ins C _ gs => C = cl c ∧ FsR K bs H fs gs
  | _, _ => False
/-- from (bs, H) to (bs', H'): more boxes, and all that is no box stands as it was -/
structure Gr (bs : List Addr) (H : Hp) (bs' : List Addr) (H' : Hp) : Prop where
  pre : ∃ e, bs' = bs ++ e
  keep : ∀ a o, H a = some o → a ∉ bs → H' a = some o ∧ a ∉ bs'
  fz : ∀ a ob x, H a = some (.frz ob x) → H' a = some (.frz ob x)
theorem Gr.refl (bs : List Addr) (H : Hp) : Gr bs H bs H := ⟨⟨[], by simp⟩, fun _ _ h n => ⟨h, n⟩, fun _ _ _ h => h⟩
theorem Gr.trans {b1 b2 b3 : List Addr} {H1 H2 H3 : Hp} (g : Gr b1 H1 b2 H2) (g' : Gr b2 H2 b3 H3) : Gr b1 H1 b3 H3 := by
  obtain ⟨⟨e, he⟩, k, f⟩ := g
  obtain ⟨⟨e', he'⟩, k', f'⟩ := g'
  exact ⟨⟨e ++ e', by rw [he', he, List.append_assoc]⟩, fun a o h n => let ⟨h1, n1⟩ := k a o h n; k' a o h1 n1, fun a ob x h => f' a ob x (f a ob x h)⟩
theorem Gr.hid {bs bs' : List Addr} {H H' : Hp} (g : Gr bs H bs' H') : ∀ a o, hid bs H a = some o → hid bs' H' a = some o := fun a o h => by
  obtain ⟨n, h⟩ := hid_some h
  obtain ⟨h', n'⟩ := g.keep a o h n
  exact hid_of n' h'
theorem Gr.at {bs bs' : List Addr} {H H' : Hp} (g : Gr bs H bs' H') {j : Nat} {p : Addr} (h : bs[j]? = some p) : bs'[j]? = some p := by
  obtain ⟨e, rfl⟩ := g.pre
  obtain ⟨hl, _⟩ := List.getElem?_eq_some_iff.mp h
  rw [List.getElem?_append_left hl, h]
theorem sqT_mono {K : PySem.W.Frag} {H H' : Hp} (e : ∀ a o, H a = some o → H' a = some o) {a : Addr} {xs : List V} (h : SqT K H a xs) : SqT K H' a xs := by
  rcases h with (h | ⟨o, h⟩) | h
  · exact .inl (.inl (e _ _ h))
  · exact .inl (.inr ⟨o, e _ _ h⟩)
  · exact .inr h
theorem fzL_mono {K : PySem.W.Frag} {H H' : Hp} (e : ∀ a o, H a = some o → H' a = some o) {a : Addr} {xs : List V} (h : FzL K H a xs) : FzL K H' a xs := by
  rcases h with ⟨o, h⟩ | h
  · exact .inl ⟨o, e _ _ h⟩
  · exact .inr h
section
variable {K : PySem.W.Frag} {cl : Str → Addr} {bs bs' : List Addr} {H H' : Hp}
mutual
theorem Rp.up (eh : ∀ a o, hid bs H a = some o → hid bs' H' a = some o) (eb : ∀ (j : Nat) p, bs[j]? = some p → bs'[j]? = some p) : ∀ {d : D} {v : V}, Rp K bs H d v → Rp K bs' H' d v
  | .non, _, .non => .non
  | .bl _, _, .bl b => .bl b
  | .int _, _, .int i => .int i
  | .str _, _, .str x => .str x
  | .tup _, _, .tup h r => .tup (sqT_mono eh h) (RpL.up eh eb r)
  | .lst _, _, .lst h r => .lst (fzL_mono eh h) (RpL.up eh eb r)
  | .box _, _, .box h => .box (eb _ _ h)
theorem RpL.up (eh : ∀ a o, hid bs H a = some o → hid bs' H' a = some o) (eb : ∀ (j : Nat) p, bs[j]? = some p → bs'[j]? = some p) : ∀ {ds : List D} {vs : List V}, RpL K bs H ds vs → RpL K bs' H' ds vs
  | [], _, .nil => .nil
  | _ :: _, _, .cons h r => .cons (Rp.up eh eb h) (RpL.up eh eb r)
end
theorem Rp.mono (g : Gr bs H bs' H') {d : D} {v : V} (h : Rp K bs H d v) : Rp K bs' H' d v := h.up g.hid fun _ _ => g.at
theorem RpL.mono (g : Gr bs H bs' H') {ds : List D} {vs : List V} (h : RpL K bs H ds vs) : RpL K bs' H' ds vs := h.up g.hid fun _ _ => g.at
theorem paired_up {α β : Type} {F F' : α → β → Prop} (h : ∀ a b, F a b → F' a b) : ∀ {l : List α} {m : List β}, Paired F l m → Paired F' l m
  | _, _, .nil => .nil
  | _, _, .cons r t => .cons (h _ _ r) (paired_up h t)
theorem MoR.up (eh : ∀ a o, hid bs H a = some o → hid bs' H' a = some o) (eb : ∀ (j : Nat) p, bs[j]? = some p → bs'[j]? = some p) {m : MO} {o : HO} (h : MoR K cl bs H m o) : MoR K cl bs' H' m o := by
  cases m with
  | lst ds =>
    cases o with
    | lst vs => exact RpL.up eh eb (show RpL K bs H ds vs from h)
    | _ => exact (show False from h).elim
  | dk ds =>
    cases o with
    | dK vs => exact paired_up (fun a b q => ⟨q.1, q.2.up eh eb⟩) (show KvR K bs H ds vs from h)
    | _ => exact (show False from h).elim
  | dt ds =>
    cases o with
    | dT vs => exact paired_up (fun a b q => ⟨q.1, q.2.up eh eb⟩) (show KvR K bs H ds vs from h)
    | _ => exact (show False from h).elim
  | fd ds =>
    cases o with
    | frz ob u =>
      cases u with
      | dK vs => exact paired_up (fun a b q => ⟨q.1, q.2.up eh eb⟩) (show KvR K bs H ds vs from h)
      | _ => exact (show False from h).elim
    | _ => exact (show False from h).elim
  | ins c fs =>
    cases o with
    | ins C dx gs =>
      obtain ⟨h1, h2⟩ := (show C = cl c ∧ FsR K bs H fs gs from h)
      exact ⟨h1, paired_up (fun a b q => ⟨q.1, q.2.up eh eb⟩) h2⟩
    | _ => exact (show False from h).elim
theorem MoR.mono (g : Gr bs H bs' H') {m : MO} {o : HO} (h : MoR K cl bs H m o) : MoR K cl bs' H' m o := h.up g.hid fun _ _ => g.at
theorem RpL.length {ds : List D} {vs : List V} : RpL K bs H ds vs → ds.length = vs.length := by
  induction ds generalizing vs with
  | nil => intro h; cases h; rfl
  | cons d ds ih => intro h; cases h with | cons h r => simp [ih r]
theorem RpL.get {ds : List D} {vs : List V} (h : RpL K bs H ds vs) {i : Nat} {d : D} (e : ds[i]? = some d) : ∃ v, vs[i]? = some v ∧ Rp K bs H d v := by
  induction ds generalizing vs i with
  | nil => simp at e
  | cons x ds ih =>
    cases h with
    | cons h r =>
      cases i with
      | zero => simp at e; subst e; exact ⟨_, rfl, h⟩
      | succ n => exact ih r (by simpa using e)
theorem RpL.get' {ds : List D} {vs : List V} (h : RpL K bs H ds vs) {i : Nat} {v : V} (e : vs[i]? = some v) : ∃ d, ds[i]? = some d ∧ Rp K bs H d v := by
  induction ds generalizing vs i with
  | nil => cases h; simp at e
  | cons x ds ih =>
    cases h with
    | cons h r =>
      cases i with
      | zero => simp at e; subst e; exact ⟨_, rfl, h⟩
      | succ n => exact ih r (by simpa using e)
theorem RpL.append {ds es : List D} {vs us : List V} (h : RpL K bs H ds vs) (h' : RpL K bs H es us) : RpL K bs H (ds ++ es) (vs ++ us) := by
  induction ds generalizing vs with
  | nil => cases h; exact h'
  | cons d ds ih => cases h with | cons h r => exact .cons h (ih r)
theorem RpL.set {ds : List D} {vs : List V} (h : RpL K bs H ds vs) {d : D} {v : V} (hd : Rp K bs H d v) (i : Nat) : RpL K bs H (ds.set i d) (vs.set i v) := by
  induction ds generalizing vs i with
  | nil => cases h; exact .nil
  | cons x ds ih =>
    cases h with
    | cons h r =>
      cases i with
      | zero => exact .cons hd r
      | succ n => exact .cons h (ih r n)
theorem RpL.take {ds : List D} {vs : List V} (h : RpL K bs H ds vs) (n : Nat) : RpL K bs H (ds.take n) (vs.take n) := by
  induction ds generalizing vs n with
  | nil => cases h; simp; exact .nil
  | cons x ds ih =>
    cases h with
    | cons h r =>
      cases n with
      | zero => simp; exact .nil
      | succ n => simp; exact .cons h (ih r n)
theorem RpL.drop {ds : List D} {vs : List V} (h : RpL K bs H ds vs) (n : Nat) : RpL K bs H (ds.drop n) (vs.drop n) := by
  induction ds generalizing vs n with
  | nil => cases h; simp; exact .nil
  | cons x ds ih =>
    cases h with
    | cons h r =>
      cases n with
      | zero => simp; exact .cons h r
      | succ n => simp; exact ih r n
theorem RpL.rep {ds : List D} {vs : List V} (h : RpL K bs H ds vs) (n : Nat) : RpL K bs H (List.replicate n ds).flatten (List.replicate n vs).flatten := by
  induction n with
  | zero => exact .nil
  | succ n ih => rw [List.replicate_succ, List.replicate_succ]; simp only [List.flatten_cons]; exact h.append ih

/-! ### the store -/
structure StR (K : PySem.W.Frag) (cl : Str → Addr) (bs : List Addr) (s : Sto) (H : Hp) : Prop where
  len : bs.length = s.length
  nd : bs.Nodup
  at_ : ∀ (j : Nat) m, s[j]? = some m → ∃ p o, bs[j]? = some p ∧ H p = some o ∧ MoR K cl bs H m o
variable {s : Sto}
theorem StR.box (S : StR K cl bs s H) {j : Nat} {p : Addr} (h : bs[j]? = some p) : ∃ m o, s[j]? = some m ∧ H p = some o ∧ MoR K cl bs H m o := by
  obtain ⟨hl, _⟩ := List.getElem?_eq_some_iff.mp h
  have hl' : j < s.length := by rw [← S.len]; exact hl
  obtain ⟨p', o, hp, ho, r⟩ := S.at_ j _ (List.getElem?_eq_getElem hl')
  rw [h] at hp; cases hp
  exact ⟨_, o, List.getElem?_eq_getElem hl', ho, r⟩
theorem StR.inDom (S : StR K cl bs s H) {p : Addr} (h : p ∈ bs) : ∃ o, H p = some o := by
  obtain ⟨j, hj⟩ := List.getElem?_of_mem h
  obtain ⟨m, o, _, ho, _⟩ := S.box hj
  exact ⟨o, ho⟩
theorem StR.fresh (S : StR K cl bs s H) {p : Addr} (h : H p = none) : p ∉ bs := fun q => by
  obtain ⟨o, ho⟩ := S.inDom q
  rw [h] at ho; cases ho
/-- a new thing that is no box -/
theorem gr_new {p : Addr} {o : HO} (h : H p = none) : Gr bs H bs (upd H p o) := ⟨⟨[], by simp⟩, fun a u e n => ⟨by rw [upd_ne (ne_of_none e h)]; exact e, n⟩, fun a ob x e => by rw [upd_ne (ne_of_none e h)]; exact e⟩
theorem StR.new (S : StR K cl bs s H) {p : Addr} {o : HO} (h : H p = none) : StR K cl bs s (upd H p o) :=
  ⟨S.len, S.nd, fun j m e => let ⟨q, u, hq, hu, r⟩ := S.at_ j m e; ⟨q, u, hq, by rw [upd_ne (ne_of_none hu h)]; exact hu, r.mono (gr_new h)⟩⟩
/-- a new box -/
theorem gr_box (S : StR K cl bs s H) {p : Addr} {o : HO} (h : H p = none) : Gr bs H (bs ++ [p]) (upd H p o) := ⟨⟨[p], rfl⟩, fun a u e n => by
  have ne : a ≠ p := ne_of_none e h
  refine ⟨by rw [upd_ne ne]; exact e, fun q => ?_⟩
  rcases List.mem_append.mp q with q | q
  · exact n q
  · exact ne (by simpa using q), fun a ob x e => by rw [upd_ne (ne_of_none e h)]; exact e⟩
theorem StR.push (S : StR K cl bs s H) {p : Addr} {o : HO} {m : MO} (h : H p = none) (r : MoR K cl bs H m o) : StR K cl (bs ++ [p]) (s ++ [m]) (upd H p o) := by
  have g := gr_box (o := o) S h
  refine ⟨by simp [S.len], ?_, fun j m' e => ?_⟩
  · rw [List.nodup_append]
    refine ⟨S.nd, by simp, fun a ha b hb q => ?_⟩
    have : b = p := by simpa using hb
    rw [q, this] at ha
    exact S.fresh h ha
  · by_cases hj : j < s.length
    · rw [List.getElem?_append_left hj] at e
      obtain ⟨q, u, hq, hu, r'⟩ := S.at_ j m' e
      exact ⟨q, u, g.at hq, by rw [upd_ne (ne_of_none hu h)]; exact hu, r'.mono g⟩
    · rw [List.getElem?_append_right (by omega)] at e
      have hz : j - s.length = 0 := by
        by_cases z : j - s.length = 0
        · exact z
        · rw [List.getElem?_eq_none (by simp; omega)] at e; cases e
      rw [hz] at e
      simp at e
      subst e
      have : j = bs.length := by have := S.len; omega
      exact ⟨p, o, by rw [this]; simp, upd_same, r.mono g⟩
theorem push_at {p : Addr} (S : StR K cl bs s H) : (bs ++ [p])[s.length]? = some p := by rw [← S.len]; simp
/-- a box is written -/
theorem gr_write {j : Nat} {p : Addr} {o o0 : HO} (hp : bs[j]? = some p) (hw : H p = some o0) (nf : ∀ ob x, o0 ≠ .frz ob x := by intro _ _ z; cases z) : Gr bs H bs (upd H p o) := ⟨⟨[], by simp⟩, fun a u e n => by
  have ne : a ≠ p := fun q => n (by rw [q]; exact List.mem_of_getElem? hp)
  exact ⟨by rw [upd_ne ne]; exact e, n⟩, fun a ob x e => by
  have ne : a ≠ p := fun q => by
    subst q
    rw [hw] at e
    exact nf ob x (Option.some.inj e)
  rw [upd_ne ne]
  exact e⟩
theorem StR.write (S : StR K cl bs s H) {j : Nat} {p : Addr} {o o0 : HO} {m : MO} (hp : bs[j]? = some p) (hw : H p = some o0) (r : MoR K cl bs H m o) (nf : ∀ ob x, o0 ≠ .frz ob x := by intro _ _ z; cases z) : StR K cl bs (s.set j m) (upd H p o) := by
  have g : Gr bs H bs (upd H p o) := gr_write hp hw nf
  refine ⟨by simp [S.len], S.nd, fun i m' e => ?_⟩
  by_cases hi : i = j
  · subst hi
    have hl : i < s.length := by rw [← S.len]; exact (List.getElem?_eq_some_iff.mp hp).1
    rw [List.getElem?_set_self hl] at e
    cases e
    exact ⟨p, o, hp, upd_same, r.mono g⟩
  · rw [List.getElem?_set_ne (Ne.symm hi)] at e
    obtain ⟨q, u, hq, hu, r'⟩ := S.at_ i m' e
    have ne : q ≠ p := fun z => by
      subst z
      obtain ⟨h1, e1⟩ := List.getElem?_eq_some_iff.mp hq
      obtain ⟨h2, e2⟩ := List.getElem?_eq_some_iff.mp hp
      exact hi ((List.getElem_inj S.nd).mp (e1.trans e2.symm))
    exact ⟨q, u, hq, by rw [upd_ne ne]; exact hu, r'.mono g⟩
/-- what never changes -/
def Im (o : HO) : Prop := (∃ xs, o = .tup xs) ∨ ∃ ob x, o = .frz ob x
theorem sqT_im {H H' : Hp} (e : ∀ a o, Im o → H a = some o → H' a = some o) {a : Addr} {xs : List V} (h : SqT K H a xs) : SqT K H' a xs := by
  rcases h with (h | ⟨o, h⟩) | h
  · exact .inl (.inl (e _ _ (.inl ⟨_, rfl⟩) h))
  · exact .inl (.inr ⟨o, e _ _ (.inr ⟨_, _, rfl⟩) h⟩)
  · exact .inr h
theorem fzL_im {H H' : Hp} (e : ∀ a o, Im o → H a = some o → H' a = some o) {a : Addr} {xs : List V} (h : FzL K H a xs) : FzL K H' a xs := by
  rcases h with ⟨o, h⟩ | h
  · exact .inl ⟨o, e _ _ (.inr ⟨_, _, rfl⟩) h⟩
  · exact .inr h
mutual
theorem Rp.upI (eh : ∀ a o, Im o → hid bs H a = some o → hid bs H' a = some o) : ∀ {d : D} {v : V}, Rp K bs H d v → Rp K bs H' d v
  | .non, _, .non => .non
  | .bl _, _, .bl b => .bl b
  | .int _, _, .int i => .int i
  | .str _, _, .str x => .str x
  | .tup _, _, .tup h r => .tup (sqT_im eh h) (RpL.upI eh r)
  | .lst _, _, .lst h r => .lst (fzL_im eh h) (RpL.upI eh r)
  | .box _, _, .box h => .box h
theorem RpL.upI (eh : ∀ a o, Im o → hid bs H a = some o → hid bs H' a = some o) : ∀ {ds : List D} {vs : List V}, RpL K bs H ds vs → RpL K bs H' ds vs
  | [], _, .nil => .nil
  | _ :: _, _, .cons h r => .cons (Rp.upI eh h) (RpL.upI eh r)
end
theorem MoR.upI (eh : ∀ a o, Im o → hid bs H a = some o → hid bs H' a = some o) {m : MO} {o : HO} (h : MoR K cl bs H m o) : MoR K cl bs H' m o := by
  cases m with
  | lst ds =>
    cases o with
    | lst vs => exact RpL.upI eh (show RpL K bs H ds vs from h)
    | _ => exact (show False from h).elim
  | dk ds =>
    cases o with
    | dK vs => exact paired_up (fun a b q => ⟨q.1, q.2.upI eh⟩) (show KvR K bs H ds vs from h)
    | _ => exact (show False from h).elim
  | dt ds =>
    cases o with
    | dT vs => exact paired_up (fun a b q => ⟨q.1, q.2.upI eh⟩) (show KvR K bs H ds vs from h)
    | _ => exact (show False from h).elim
  | fd ds =>
    cases o with
    | frz ob u =>
      cases u with
      | dK vs => exact paired_up (fun a b q => ⟨q.1, q.2.upI eh⟩) (show KvR K bs H ds vs from h)
      | _ => exact (show False from h).elim
    | _ => exact (show False from h).elim
  | ins c fs =>
    cases o with
    | ins C dx gs =>
      obtain ⟨h1, h2⟩ := (show C = cl c ∧ FsR K bs H fs gs from h)
      exact ⟨h1, paired_up (fun a b q => ⟨q.1, q.2.upI eh⟩) h2⟩
    | _ => exact (show False from h).elim
/-- the heap without one thing (a list that grows in a comprehension) -/
def rm (p : Addr) (H : Hp) : Hp := fun a => if a = p then none else H a
theorem rm_same {p : Addr} : rm p H p = none := by unfold rm; rw [if_pos rfl]
theorem rm_ne {p a : Addr} (h : a ≠ p) : rm p H a = H a := by unfold rm; rw [if_neg h]
theorem rm_upd {p : Addr} {o : HO} (h : H p = none) : rm p (upd H p o) = H := by
  funext a
  by_cases q : a = p
  · subst q; rw [rm_same, h]
  · rw [rm_ne q, upd_ne q]
theorem rm_upd' {p : Addr} {o : HO} : rm p (upd H p o) = rm p H := by
  funext a
  by_cases q : a = p
  · subst q; rw [rm_same, rm_same]
  · rw [rm_ne q, upd_ne q, rm_ne q]
theorem Gr.rm {p : Addr} (g : Gr bs H bs' H') : Gr bs (rm p H) bs' (rm p H') := ⟨g.pre, fun a o h n => by
  by_cases q : a = p
  · subst q; rw [rm_same] at h; cases h
  · rw [rm_ne q] at h
    rw [rm_ne q]
    exact g.keep a o h n, fun a ob x h => by
  by_cases q : a = p
  · subst q; rw [rm_same] at h; cases h
  · rw [rm_ne q] at h
    rw [rm_ne q]
    exact g.fz a ob x h⟩
theorem im_rm {p : Addr} {xs : List V} (hp : H p = some (.lst xs)) : ∀ a o, Im o → hid bs H a = some o → hid bs (rm p H) a = some o := fun a o i h => by
  obtain ⟨n, h⟩ := hid_some h
  refine hid_of n ?_
  rw [rm_ne (fun q => ?_)]
  · exact h
  · subst q
    rw [hp] at h
    cases h
    rcases i with ⟨_, z⟩ | ⟨_, _, z⟩ <;> cases z
theorem up_rm {p : Addr} : ∀ a o, Im o → hid bs (rm p H) a = some o → hid bs H a = some o := fun a o _ h => by
  obtain ⟨n, h⟩ := hid_some h
  refine hid_of n ?_
  by_cases q : a = p
  · subst q; rw [rm_same] at h; cases h
  · rw [rm_ne q] at h; exact h
theorem StR.rm (S : StR K cl bs s H) {p : Addr} {xs : List V} (hp : H p = some (.lst xs)) (n : p ∉ bs) : StR K cl bs s (rm p H) := ⟨S.len, S.nd, fun j m e => by
  obtain ⟨q, o, hq, ho, r⟩ := S.at_ j m e
  exact ⟨q, o, hq, by rw [rm_ne (fun z => n (by rw [← z]; exact List.mem_of_getElem? hq))]; exact ho, r.upI (im_rm hp)⟩⟩
theorem StR.unrm {p : Addr} (S : StR K cl bs s (G.rm p H)) : StR K cl bs s H := ⟨S.len, S.nd, fun j m e => by
  obtain ⟨q, o, hq, ho, r⟩ := S.at_ j m e
  refine ⟨q, o, hq, ?_, r.upI up_rm⟩
  by_cases z : q = p
  · subst z; rw [rm_same] at ho; cases ho
  · rw [rm_ne z] at ho; exact ho⟩

/-! ### slots -/
structure EnR (K : PySem.W.Frag) (bs : List Addr) (H : Hp) (e : En) (σ : L2.St) : Prop where
  len : e.length = σ.length
  at_ : ∀ (i : Nat) d, e[i]? = some (some d) → ∃ v, σ[i]? = some (some v) ∧ Rp K bs H d v
theorem EnR.mono (g : Gr bs H bs' H') {e : En} {σ : L2.St} (h : EnR K bs H e σ) : EnR K bs' H' e σ :=
  ⟨h.len, fun i d q => let ⟨v, a, b⟩ := h.at_ i d q; ⟨v, a, b.mono g⟩⟩
theorem EnR.set {e : En} {σ : L2.St} (h : EnR K bs H e σ) (i : Nat) {d : D} {v : V} (r : Rp K bs H d v) : EnR K bs H (st e i (some d)) (σ.set i (some v)) := by
  refine ⟨by rw [st_len, List.length_set]; exact h.len, fun k d' q => ?_⟩
  rw [st_set] at q
  by_cases hk : k = i
  · subst hk
    by_cases hl : k < e.length
    · rw [List.getElem?_set_self hl] at q
      cases q
      exact ⟨v, by rw [List.getElem?_set_self (by rw [← h.len]; exact hl)], r⟩
    · rw [List.getElem?_eq_none (by simpa using hl)] at q; cases q
  · rw [List.getElem?_set_ne (Ne.symm hk)] at q
    obtain ⟨w, a, b⟩ := h.at_ k d' q
    exact ⟨w, by rw [List.getElem?_set_ne (Ne.symm hk)]; exact a, b⟩
theorem EnR.wipe {e : En} {σ : L2.St} (h : EnR K bs H e σ) : ∀ vs : List Nat, EnR K bs H (wipeE e vs) (wipe σ vs)
  | [] => h
  | v :: vs => by
    have ih := EnR.wipe h vs
    unfold wipeE L2.wipe
    refine ⟨by rw [st_len, List.length_set]; exact ih.len, fun k d' q => ?_⟩
    rw [st_set] at q
    by_cases hk : k = v
    · subst hk
      by_cases hl : k < (wipeE e vs).length
      · rw [List.getElem?_set_self hl] at q; cases q
      · rw [List.getElem?_eq_none (by simpa using hl)] at q; cases q
    · rw [List.getElem?_set_ne (Ne.symm hk)] at q
      obtain ⟨w, a, b⟩ := ih.at_ k d' q
      exact ⟨w, by rw [List.getElem?_set_ne (Ne.symm hk)]; exact a, b⟩

/-! ### what a run of the data level gives -/
/-- an exception: class and own dict, by name and fields -/
def ExR (K : PySem.W.Frag) (cl : Str → Addr) (bs : List Addr) (H : Hp) (c : Str) (fs : List (Str × D)) (u : Value) (dx : Option Addr) : Prop :=
  u = .ref (cl c) ∧ (fs ≠ [] → ∃ a gs, dx = some a ∧ a ∉ bs ∧ H a = some (.xd gs) ∧ FsR K bs H fs gs)
def Run (K : PySem.W.Frag) (cl : Str → Addr) (W : Value → Option Addr → Hp → Prop) {α : Type} (bs : List Addr) (s : Sto) (H : Hp) (m : Cm α) (P : α → List Addr → Sto → Hp → Prop) : Prop := match m s with
  | .ok a t => ∀ bs' H', Gr bs H bs' H' → StR K cl bs' t H' → P a bs' t H'
  | .ex c fs t => ∀ bs' H' u dx, Gr bs H bs' H' → StR K cl bs' t H' → ExR K cl bs' H' c fs u dx → W u dx H'
  | .no => False
variable {W : Value → Option Addr → Hp → Prop}
theorem Run.bnd {α β : Type} {m : Cm α} {f : α → Cm β} {P : β → List Addr → Sto → Hp → Prop} (h : Run K cl W bs s H (bnd m f) P) :
    Run K cl W bs s H m (fun a bs' t H' => Run K cl W bs' t H' (f a) P) := by
  unfold Run G.bnd at *
  cases e : m s with
  | ok a t =>
    rw [e] at h
    simp only at h ⊢
    intro b1 H1 g1 S1
    cases e2 : f a t with
    | ok b u => rw [e2] at h; exact fun b2 H2 g2 S2 => h b2 H2 (g1.trans g2) S2
    | ex c fs u => rw [e2] at h; exact fun b2 H2 x dx g2 S2 X2 => h b2 H2 x dx (g1.trans g2) S2 X2
    | no => rw [e2] at h; exact h
  | ex c fs t => rw [e] at h; exact h
  | no => rw [e] at h; exact h
theorem Run.imp {α : Type} {m : Cm α} {P P' : α → List Addr → Sto → Hp → Prop} (h : Run K cl W bs s H m P) (hp : ∀ a bs' t H', Gr bs H bs' H' → StR K cl bs' t H' → P a bs' t H' → P' a bs' t H') : Run K cl W bs s H m P' := by
  unfold Run at *
  cases e : m s with
  | ok a t => rw [e] at h; exact fun b1 H1 g1 S1 => hp _ _ _ _ g1 S1 (h b1 H1 g1 S1)
  | ex c fs t => rw [e] at h; exact h
  | no => rw [e] at h; exact h
theorem Run.of_ret {α : Type} {a : α} {P : α → List Addr → Sto → Hp → Prop} (h : Run K cl W bs s H (ret a) P) : ∀ bs' H', Gr bs H bs' H' → StR K cl bs' s H' → P a bs' s H' := h
theorem Run.now {α : Type} {a : α} {P : α → List Addr → Sto → Hp → Prop} (S : StR K cl bs s H) (h : Run K cl W bs s H (G.ret a) P) : P a bs s H := h bs H (Gr.refl _ _) S
theorem Run.of_ok {α : Type} {m : Cm α} {a : α} {t : Sto} {P : α → List Addr → Sto → Hp → Prop} (h : Run K cl W bs s H m P) (e : m s = .ok a t) : ∀ bs' H', Gr bs H bs' H' → StR K cl bs' t H' → P a bs' t H' := by
  unfold Run at h
  rw [e] at h
  exact h
theorem Run.of_no {α : Type} {m : Cm α} {P : α → List Addr → Sto → Hp → Prop} (h : Run K cl W bs s H m P) (e : m s = .no) : False := by
  unfold Run at h
  rw [e] at h
  exact h
theorem Run.of_noC {α : Type} {P : α → List Addr → Sto → Hp → Prop} (h : Run K cl W bs s H noC P) : False := h
/-- the run begins from a grown heap -/
theorem Run.up {α : Type} {m : Cm α} {P : α → List Addr → Sto → Hp → Prop} (g : Gr bs H bs' H') (h : Run K cl W bs s H m P) : Run K cl W bs' s H' m P := by
  unfold Run at *
  cases e : m s with
  | ok a t => rw [e] at h; exact fun b1 H1 g1 S1 => h b1 H1 (g.trans g1) S1
  | ex c fs t => rw [e] at h; exact fun b1 H1 u dx g1 S1 => h b1 H1 u dx (g.trans g1) S1
  | no => rw [e] at h; exact h
end
end G

set_option Elab.async false
set_option linter.all false
set_option maxRecDepth 100000
set_option maxHeartbeats 4000000
/-! G, soundness of expressions. -/
namespace G
open PySem L2 PySem.Spec PyProof.Rows

section
variable {X : Cx} {cl : Str → Addr} {W : WX}
theorem PE.imp {e : Expr} {t t' : TE} (h : PE X e t) (i : ∀ σ H Q, t' σ H Q → t σ H Q) : PE X e t' := ⟨fun pins s σ H Q I q => h.run pins s σ H Q I (i σ H Q q)⟩
theorem PT.imp {e : Expr} {t t' : TT} (h : PT X e t) (i : ∀ σ H Q, t' σ H Q → t σ H Q) : PT X e t' := ⟨fun pins s σ H Q I q => h.run pins s σ H Q I (i σ H Q q)⟩
theorem PW.imp {e : Expr} {t t' : TT} (h : PW X e t) (i : ∀ σ H Q, t' σ H Q → t σ H Q) : PW X e t' := ⟨fun wh pins s σ H Q I q => h.run wh pins s σ H Q I (i σ H Q q)⟩
theorem PA.imp {e : List Expr} {t t' : TA} (h : PA X e t) (i : ∀ σ H Q, t' σ H Q → t σ H Q) : PA X e t' := ⟨fun pos pins s σ H Q I q => h.run pos pins s σ H Q I (i σ H Q q)⟩
theorem PO.imp {e : Option Expr} {t t' : TO} (h : PO X e t) (i : ∀ σ H Q, t' σ H Q → t σ H Q) : PO X e t' := ⟨fun pins s σ H Q I q => h.run pins s σ H Q I (i σ H Q q)⟩
theorem PS.imp {e : Stmt} {t t' : TS} (h : PS X e t) (i : ∀ E σ H, t' E σ H → t E σ H) : PS X e t' := ⟨fun pins s σ H E I q => h.run pins s σ H E I (i E σ H q)⟩
theorem PSs.imp {e : List Stmt} {t t' : TS} (h : PSs X e t) (i : ∀ E σ H, t' E σ H → t E σ H) : PSs X e t' := ⟨fun pins s σ H E I q => h.run pins s σ H E I (i E σ H q)⟩
end

def TEof (K : PySem.W.Frag) (cl : Str → Addr) (W : WX) (c : CE) : TE := fun σ H Q => ∃ bs s e, StR K cl bs s H ∧ EnR K bs H e σ ∧ Run K cl (fun u dx H' => W u dx σ H') bs s H (c e) (fun d bs' _ H' => ∀ v, Rp K bs' H' d v → Q v H')
def TTof (K : PySem.W.Frag) (cl : Str → Addr) (W : WX) (c : CT) : TT := fun σ H Q => ∃ bs s e, StR K cl bs s H ∧ EnR K bs H e σ ∧ Run K cl (fun u dx H' => W u dx σ H') bs s H (c e) (fun b _ _ H' => Q b H')
def TAof (K : PySem.W.Frag) (cl : Str → Addr) (W : WX) (c : CA) : TA := fun σ H Q => ∃ bs s e, StR K cl bs s H ∧ EnR K bs H e σ ∧ Run K cl (fun u dx H' => W u dx σ H') bs s H (c e) (fun ds bs' _ H' => ∀ vs, RpL K bs' H' ds vs → Q vs H')
def TOof (K : PySem.W.Frag) (cl : Str → Addr) (W : WX) (c : CO) : TO := fun σ H Q => ∃ bs s e, StR K cl bs s H ∧ EnR K bs H e σ ∧ Run K cl (fun u dx H' => W u dx σ H') bs s H (c e) (fun o _ _ H' => Q o H')
/-- a new list that nobody holds on to -/
def TLof (K : PySem.W.Frag) (cl : Str → Addr) (W : WX) (c : CA) : TE := fun σ H Q => ∃ bs s e, StR K cl bs s H ∧ EnR K bs H e σ ∧ Run K cl (fun u dx H' => W u dx σ H') bs s H (c e) (fun ds bs' _ H' => ∀ p vs, H' p = none → RpL K bs' H' ds vs → Q (.ref p) (upd H' p (.lst vs)))
def SL (X : Cx) (cl : Str → Addr) (W : WX) (e : Expr) (c : CA) : Prop := PE X e (TLof X.K cl W c)
def SE (X : Cx) (cl : Str → Addr) (W : WX) (e : Expr) (c : CE) : Prop := PE X e (TEof X.K cl W c)
def ST (X : Cx) (cl : Str → Addr) (W : WX) (e : Expr) (c : CT) : Prop := PT X e (TTof X.K cl W c)
def SW (X : Cx) (cl : Str → Addr) (W : WX) (e : Expr) (c : CT) : Prop := PW X e (TTof X.K cl W c)
def SA (X : Cx) (cl : Str → Addr) (W : WX) (es : List Expr) (c : CA) : Prop := PA X es (TAof X.K cl W c)
def SO (X : Cx) (cl : Str → Addr) (W : WX) (e : Option Expr) (c : CO) : Prop := PO X e (TOof X.K cl W c)

/-! ### operators by values -/
def OpS (K : PySem.W.Frag) (cl : Str → Addr) (f : D → D → Cm D) (r : R2) : Prop :=
  ∀ (W : Value → Option Addr → Hp → Prop) bs s H x y v w (Q : VK), StR K cl bs s H → Rp K bs H x v → Rp K bs H y w → Run K cl W bs s H (f x y) (fun d bs' _ H' => ∀ v, Rp K bs' H' d v → Q v H') → r v w H Q
def UnS (K : PySem.W.Frag) (cl : Str → Addr) (f : D → Cm D) (r : V → Hp → VK → Prop) : Prop :=
  ∀ (W : Value → Option Addr → Hp → Prop) bs s H x v (Q : VK), StR K cl bs s H → Rp K bs H x v → Run K cl W bs s H (f x) (fun d bs' _ H' => ∀ v, Rp K bs' H' d v → Q v H') → r v H Q
def BuS (K : PySem.W.Frag) (cl : Str → Addr) (f : List D → Cm D) (r : List V → Hp → VK → Prop) : Prop :=
  ∀ (W : Value → Option Addr → Hp → Prop) bs s H ds vs (Q : VK), StR K cl bs s H → RpL K bs H ds vs → Run K cl W bs s H (f ds) (fun d bs' _ H' => ∀ v, Rp K bs' H' d v → Q v H') → r vs H Q
/-- an operator of the machine does what f says -/
def OpG (X : Cx) (cl : Str → Addr) (m : Value → Value → Sem Value) (f : D → D → Cm D) : Prop := ∃ r, OpR X m r ∧ OpS X.K cl f r

section
variable {K : PySem.W.Frag} {cl : Str → Addr} {bs bs' : List Addr} {H H' : Hp} {s : Sto} {W : Value → Option Addr → Hp → Prop}
theorem Rp.int_inv {i : Int} {v : V} (h : Rp K bs H (.int i) v) : v = .int i := by cases h; rfl
theorem Rp.str_inv {i : Str} {v : V} (h : Rp K bs H (.str i) v) : v = .str i := by cases h; rfl
theorem Rp.bl_inv {i : Bool} {v : V} (h : Rp K bs H (.bl i) v) : v = .bl i := by cases h; rfl
theorem Rp.non_inv {v : V} (h : Rp K bs H .non v) : v = .non := by cases h; rfl
theorem lAt_some {j : Nat} {ds : List D} (h : lAt s j = some ds) : s[j]? = some (.lst ds) := by
  unfold lAt at h
  split at h
  · cases h; assumption
  · cases h
theorem StR.lst (S : StR K cl bs s H) {j : Nat} {ds : List D} (h : lAt s j = some ds) {v : V} (r : Rp K bs H (.box j) v) : ∃ p vs, v = .ref p ∧ bs[j]? = some p ∧ H p = some (.lst vs) ∧ RpL K bs H ds vs := by
  cases r with
  | box hp =>
    obtain ⟨q, o, hq, ho, m⟩ := S.at_ j _ (lAt_some h)
    rw [hp] at hq; cases hq
    cases o with
    | lst vs => exact ⟨_, vs, rfl, hp, ho, m⟩
    | _ => exact (show False from m).elim
/-- the items of a list or a tuple -/
theorem StR.items (S : StR K cl bs s H) {x : D} {ds : List D} (h : itemsOf s x = some ds) {v : V} (r : Rp K bs H x v) : ∃ p vs, v = .ref p ∧ (SqL K H p vs ∨ SqT K H p vs) ∧ RpL K bs H ds vs := by
  cases x with
  | tup xs =>
    cases h
    cases r with
    | tup h1 h2 => exact ⟨_, _, rfl, .inr (sqT_mono (fun a o e => (hid_some e).2) h1), h2⟩
  | lst xs =>
    cases h
    cases r with
    | lst h1 h2 => exact ⟨_, _, rfl, .inl (fzL_mono (fun a o e => (hid_some e).2) h1).sq, h2⟩
  | box j =>
    obtain ⟨p, vs, e1, _, e2, e3⟩ := S.lst (show lAt s j = some ds from h) r
    exact ⟨p, vs, e1, .inl (SqL.of e2), e3⟩
  | _ => cases h
theorem lAt_run {α : Type} {j : Nat} {f : List D → R α} {P : α → List Addr → Sto → Hp → Prop} {W : Value → Option Addr → Hp → Prop}
    (h : Run K cl W bs s H (fun s => match lAt s j with | some xs => f xs | none => .no) P) : ∃ xs, lAt s j = some xs ∧ Run K cl W bs s H (fun _ => f xs) P := by
  unfold Run at *
  cases e : lAt s j with
  | none => simp only [e] at h
  | some xs => simp only [e] at h; exact ⟨xs, rfl, h⟩
theorem big_line {n : Nat} (h : n ≤ big) : n ≤ sizeLine := Nat.le_trans h (by rw [sizeLine_eq]; decide)
theorem big_lt {n : Nat} (h : n < big) : n < sizeLine := Nat.lt_of_lt_of_le h (by rw [sizeLine_eq]; decide)
theorem Run.ite {α : Type} {c : Prop} [Decidable c] {m : Cm α} {P : α → List Addr → Sto → Hp → Prop} (h : Run K cl W bs s H (if c then m else noC) P) : c ∧ Run K cl W bs s H m P := by
  by_cases hc : c
  · rw [if_pos hc] at h; exact ⟨hc, h⟩
  · rw [if_neg hc] at h; exact h.elim
theorem ops_I0 {f : D → D → Cm D} {g : Int → Int → V} {gd : Int → Int → D} (hf : ∀ i j, f (.int i) (.int j) = ret (gd i j)) (hg : ∀ i j, ∀ (bs : List Addr) (H : Hp), Rp K bs H (gd i j) (g i j))
    (hn : ∀ x y, (∀ i j, ¬ (x = .int i ∧ y = .int j)) → f x y = noC) : OpS K cl f (rI0 g) := by
  intro W bs s H x y v w Q S r1 r2 h
  by_cases hx : ∃ i j, x = .int i ∧ y = .int j
  · obtain ⟨i, j, rfl, rfl⟩ := hx
    rw [hf] at h
    exact ⟨i, j, r1.int_inv, r2.int_inv, Run.now S h _ (hg i j _ _)⟩
  · rw [hn x y fun i j q => hx ⟨i, j, q⟩] at h
    exact h.elim
theorem ops_I {f : D → D → Cm D} {C C' : Int → Int → Prop} [∀ i j, Decidable (C' i j)] {g : Int → Int → V} {gd : Int → Int → D} (hf : ∀ i j, f (.int i) (.int j) = if C' i j then ret (gd i j) else noC) (hc : ∀ i j, C' i j → C i j) (hg : ∀ i j, ∀ (bs : List Addr) (H : Hp), Rp K bs H (gd i j) (g i j))
    (hn : ∀ x y, (∀ i j, ¬ (x = .int i ∧ y = .int j)) → f x y = noC) : OpS K cl f (rI C g) := by
  intro W bs s H x y v w Q S r1 r2 h
  by_cases hx : ∃ i j, x = .int i ∧ y = .int j
  · obtain ⟨i, j, rfl, rfl⟩ := hx
    rw [hf] at h
    obtain ⟨c, h⟩ := h.ite
    exact ⟨i, j, r1.int_inv, r2.int_inv, hc i j c, Run.now S h _ (hg i j _ _)⟩
  · rw [hn x y fun i j q => hx ⟨i, j, q⟩] at h
    exact h.elim
end
local macro_rules | `(tactic| walk_at "noint") => `(tactic| (intro x y h; cases x <;> cases y <;> first | rfl | exact absurd ⟨rfl, rfl⟩ (h _ _)))
section
variable {X : Cx} {cl : Str → Addr}
theorem og_sub : OpG X cl (binaryOp .Sub) dSub := ⟨_, op_sub, ops_I0 (gd := fun i j => .int (i - j)) (fun _ _ => rfl) (fun _ _ _ _ => .int _) (by walk_at "noint")⟩
theorem os_iadd {K : PySem.W.Frag} : OpS K cl iAdd (rI0 fun i j => .int (i + j)) := ops_I0 (gd := fun i j => .int (i + j)) (fun _ _ => rfl) (fun _ _ _ _ => .int _) (by walk_at "noint")
theorem og_div : OpG X cl (binaryOp .FloorDiv) dDiv := ⟨_, op_fdivW, ops_I (C' := fun _ j => 0 < j ∧ j < 2 ^ 128) (gd := fun i j => .int (i / j)) (fun _ _ => rfl) (fun _ j h => wide_div h.1 (b := 128) (by omega) (by decide) (by decide)) (fun _ _ _ _ => .int _) (by walk_at "noint")⟩
theorem og_mod : OpG X cl (binaryOp .Mod) dMod := ⟨_, op_mod, ops_I (C' := fun _ j => 0 < j) (gd := fun i j => .int (i % j)) (fun _ _ => rfl) (fun _ j h => h) (fun _ _ _ _ => .int _) (by walk_at "noint")⟩
theorem og_pow : OpG X cl (binaryOp .Pow) dPow := ⟨_, op_pow, ops_I (C' := fun i j => 0 ≤ j ∧ j ≤ 1000000 ∧ -(2 ^ 64) < i ∧ i < 2 ^ 64) (gd := fun i j => .int (i ^ j.toNat)) (fun _ _ => rfl) (fun _ j h => ⟨h.1, h.2.1, by omega⟩) (fun _ _ _ _ => .int _) (by walk_at "noint")⟩
theorem og_shl : OpG X cl (binaryOp .LShift) dShl := ⟨_, op_shl, ops_I (C' := fun i j => 0 ≤ j ∧ j ≤ 1000000 ∧ -(2 ^ 64) < i ∧ i < 2 ^ 64) (gd := fun i j => .int (i * 2 ^ j.toNat)) (fun _ _ => rfl) (fun _ j h => ⟨h.1, h.2.1, by omega⟩) (fun _ _ _ _ => .int _) (by walk_at "noint")⟩
theorem og_shr : OpG X cl (binaryOp .RShift) dShr := ⟨_, op_shr, ops_I (C' := fun i j => 0 ≤ j) (gd := fun i j => .int (i / 2 ^ j.toNat)) (fun _ _ => rfl) (fun _ j h => h) (fun _ _ _ _ => .int _) (by walk_at "noint")⟩
theorem og_and : OpG X cl (binaryOp .BitAnd) dAnd := ⟨_, op_and, ops_I0 (gd := fun i j => .int (Builtin.bitAnd i j)) (fun _ _ => rfl) (fun _ _ _ _ => .int _) (by walk_at "noint")⟩
theorem og_or : OpG X cl (binaryOp .BitOr) dOr := ⟨_, op_or, ops_I0 (gd := fun i j => .int (Builtin.bitOr i j)) (fun _ _ => rfl) (fun _ _ _ _ => .int _) (by walk_at "noint")⟩
theorem og_xor : OpG X cl (binaryOp .BitXor) dXor := ⟨_, op_xor, ops_I0 (gd := fun i j => .int (Builtin.bitXor i j)) (fun _ _ => rfl) (fun _ _ _ _ => .int _) (by walk_at "noint")⟩
theorem og_lt : OpG X cl (compareOp .Lt) dLt := ⟨_, op_lt, ops_I0 (gd := fun i j => .bl (decide (i < j))) (fun _ _ => rfl) (fun _ _ _ _ => .bl _) (by walk_at "noint")⟩
theorem og_le : OpG X cl (compareOp .LtE) dLe := ⟨_, op_le, ops_I0 (gd := fun i j => .bl (decide (i ≤ j))) (fun _ _ => rfl) (fun _ _ _ _ => .bl _) (by walk_at "noint")⟩
theorem og_gt : OpG X cl (compareOp .Gt) dGt := ⟨_, op_gt, ops_I0 (gd := fun i j => .bl (decide (j < i))) (fun _ _ => rfl) (fun _ _ _ _ => .bl _) (by walk_at "noint")⟩
theorem og_ge : OpG X cl (compareOp .GtE) dGe := ⟨_, op_ge, ops_I0 (gd := fun i j => .bl (decide (j ≤ i))) (fun _ _ => rfl) (fun _ _ _ _ => .bl _) (by walk_at "noint")⟩
/-- a new tuple, a new list -/
theorem Rp.newT {K : PySem.W.Frag} {bs : List Addr} {H : Hp} {s : Sto} {p : Addr} {ds : List D} {vs : List V} (S : StR K cl bs s H) (h : H p = none) (r : RpL K bs H ds vs) : Rp K bs (upd H p (.tup vs)) (.tup ds) (.ref p) :=
  .tup (.inl (.inl (hid_of (S.fresh h) upd_same))) (r.mono (gr_new h))
theorem Run.newT {K : PySem.W.Frag} {W : Value → Option Addr → Hp → Prop} {bs : List Addr} {H : Hp} {s : Sto} {p : Addr} {ds : List D} {vs : List V} {Q : VK} (S : StR K cl bs s H) (h : H p = none) (r : RpL K bs H ds vs)
    (q : Run K cl W bs s H (ret (D.tup ds)) (fun d bs' _ H' => ∀ v, Rp K bs' H' d v → Q v H')) : Q (.ref p) (upd H p (.tup vs)) :=
  q.of_ret bs _ (gr_new h) (S.new h) _ (Rp.newT S h r)
theorem Run.newL {K : PySem.W.Frag} {W : Value → Option Addr → Hp → Prop} {bs : List Addr} {H : Hp} {s : Sto} {p : Addr} {ds : List D} {vs : List V} {Q : VK} (S : StR K cl bs s H) (h : H p = none) (r : RpL K bs H ds vs)
    (q : Run K cl W bs s H (alloc (.lst ds)) (fun d bs' _ H' => ∀ v, Rp K bs' H' d v → Q v H')) : Q (.ref p) (upd H p (.lst vs)) :=
  q.of_ok (a := .box s.length) rfl (bs ++ [p]) _ (gr_box S h) (S.push h (m := .lst ds) (o := .lst vs) r) _ (.box (push_at S))
theorem og_add : OpG X cl (binaryOp .Add) dAdd := by
  refine ⟨_, (op_add (X := X)).or (op_add_str.or (op_catA.or op_cat)), ?_⟩
  intro W bs s H x y v w Q S r1 r2 h
  have nope : ∀ {x y : D}, dAdd x y = noC → Run X.K cl W bs s H (dAdd x y) (fun d bs' _ H' => ∀ v, Rp X.K bs' H' d v → Q v H') → False := fun e z => by
    rw [e] at z
    exact z
  cases x <;> cases y <;> first | exact (nope rfl h).elim | skip
  · exact .inl ⟨_, _, r1.int_inv, r2.int_inv, Run.now S h _ (.int _)⟩
  · rename_i a b
    obtain ⟨c, h⟩ := Run.ite (show Run X.K cl W bs s H (if a.length + b.length ≤ big then (ret (D.str (a ++ b)) : Cm D) else noC) _ from h)
    exact .inr (.inl ⟨_, _, r1.str_inv, r2.str_inv, big_line c, Run.now S h _ (.str _)⟩)
  · rename_i xs ys
    obtain ⟨c, h⟩ := Run.ite (show Run X.K cl W bs s H (if xs.length + ys.length ≤ big then (ret (D.tup (xs ++ ys)) : Cm D) else noC) _ from h)
    cases r1 with
    | tup h1 l1 =>
      cases r2 with
      | tup h2 l2 =>
        have up : ∀ a o, hid bs H a = some o → H a = some o := fun a o e => (hid_some e).2
        refine .inr (.inr (.inl ⟨_, _, _, _, rfl, rfl, sqT_mono up h1, sqT_mono up h2, ?_, fun e => ?_, fun _ e => ?_, fun _ _ p hp => ?_⟩))
        · rw [← l1.length, ← l2.length]; exact big_line c
        · subst e; cases l1; exact Run.now S h _ (.tup h2 l2)
        · subst e; cases l2
          have e0 : xs ++ ([] : List D) = xs := by simp
          rw [e0] at h
          exact Run.now S h _ (.tup h1 l1)
        · exact Run.newT S hp (l1.append l2) h
  · rename_i a b
    have h' : Run X.K cl W bs s H (fun s => match lAt s a, lAt s b with | some xs, some ys => if xs.length + ys.length ≤ big then alloc (.lst (xs ++ ys)) s else .no | _, _ => .no) (fun d bs' _ H' => ∀ v, Rp X.K bs' H' d v → Q v H') := h
    cases ea : lAt s a with
    | none => unfold Run at h'; simp only [ea] at h'
    | some xs =>
      cases eb : lAt s b with
      | none => unfold Run at h'; simp only [ea, eb] at h'
      | some ys =>
        obtain ⟨p, vs, rfl, _, hp, l1⟩ := S.lst ea r1
        obtain ⟨q, ws, rfl, _, hq, l2⟩ := S.lst eb r2
        by_cases c : xs.length + ys.length ≤ big
        · refine .inr (.inr (.inr ⟨p, q, vs, ws, rfl, rfl, hp, hq, ?_, fun n hn => ?_⟩))
          · rw [← l1.length, ← l2.length]; exact big_line c
          · refine Run.newL S hn (l1.append l2) (W := W) ?_
            unfold Run at h' ⊢
            simp only [ea, eb, if_pos c] at h'
            exact h'
        · unfold Run at h'; simp only [ea, eb, if_neg c] at h'
theorem og_mul : OpG X cl (binaryOp .Mult) dMul := by
  refine ⟨_, (op_mul (X := X)).or (op_repT.or op_rep), ?_⟩
  intro W bs s H x y v w Q S r1 r2 h
  have nope : ∀ {x y : D}, dMul x y = noC → Run X.K cl W bs s H (dMul x y) (fun d bs' _ H' => ∀ v, Rp X.K bs' H' d v → Q v H') → False := fun e z => by
    rw [e] at z
    exact z
  cases x <;> cases y <;> first | exact (nope rfl h).elim | skip
  · rename_i i j
    obtain ⟨c, h⟩ := Run.ite (show Run X.K cl W bs s H (if mulOk i j then (ret (D.int (i * j)) : Cm D) else noC) _ from h)
    exact .inl ⟨_, _, r1.int_inv, r2.int_inv, c, Run.now S h _ (.int _)⟩
  · rename_i xs k
    obtain ⟨c, h⟩ := Run.ite (show Run X.K cl W bs s H (if xs ≠ [] ∧ 2 ≤ k ∧ k ≤ 1000 ∧ xs.length ≤ 1000 then (ret (D.tup (List.replicate k.toNat xs).flatten) : Cm D) else noC) _ from h)
    cases r1 with
    | tup h1 l1 =>
      have up : ∀ a o, hid bs H a = some o → H a = some o := fun a o e => (hid_some e).2
      obtain ⟨c1, c2, c3, c4⟩ := c
      refine .inr (.inl ⟨_, k, _, rfl, r2.int_inv, sqT_mono up h1, ?_, c2, c3, ?_, fun p hp => Run.newT S hp (l1.rep _) h⟩)
      · intro e; subst e; cases l1; exact c1 rfl
      · rw [← l1.length]; exact c4
  · rename_i a k
    have h' : Run X.K cl W bs s H (fun s => match lAt s a with | some xs => if -(2 ^ 62) < k ∧ k < 2 ^ 62 ∧ xs.length * k.toNat ≤ big then alloc (.lst (List.replicate k.toNat xs).flatten) s else .no | _ => .no) (fun d bs' _ H' => ∀ v, Rp X.K bs' H' d v → Q v H') := h
    cases ea : lAt s a with
    | none => unfold Run at h'; simp only [ea] at h'
    | some xs =>
      obtain ⟨p, vs, rfl, _, hp, l1⟩ := S.lst ea r1
      by_cases c : -(2 ^ 62) < k ∧ k < 2 ^ 62 ∧ xs.length * k.toNat ≤ big
      · refine .inr (.inr ⟨p, k, vs, rfl, r2.int_inv, hp, by omega, by omega, ?_, fun n hn => ?_⟩)
        · rw [← l1.length]; exact big_line c.2.2
        · refine Run.newL S hn (l1.rep _) (W := W) ?_
          unfold Run at h' ⊢
          simp only [ea, if_pos c] at h'
          exact h'
      · unfold Run at h'; simp only [ea, if_neg c] at h'
end

/-! ### one after another -/
section
variable {K : PySem.W.Frag} {cl : Str → Addr} {W : WX} {ca cb cc : CE} {σ : L2.St} {H : Hp} {Q : VK}
theorem tOp_of {f : D → D → Cm D} {r : R2} (o : OpS K cl f r) (h : TEof K cl W (cBin f ca cb) σ H Q) : tOp r (TEof K cl W ca) (TEof K cl W cb) σ H Q := by
  obtain ⟨bs, s, e, S, N, h⟩ := h
  refine ⟨bs, s, e, S, N, (Run.bnd h).imp fun x b1 t1 H1 g1 S1 h1 v r1 => ⟨b1, t1, e, S1, N.mono g1, (Run.bnd h1).imp fun y b2 t2 H2 g2 S2 h2 w r2 => ?_⟩⟩
  exact o _ b2 t2 H2 x y v w Q S2 (r1.mono g2) r2 h2
theorem tUn_of {f : D → Cm D} {r : V → Hp → VK → Prop} (o : UnS K cl f r) (h : TEof K cl W (cUn f ca) σ H Q) : tUn r (TEof K cl W ca) σ H Q := by
  obtain ⟨bs, s, e, S, N, h⟩ := h
  exact ⟨bs, s, e, S, N, (Run.bnd h).imp fun x b1 t1 H1 g1 S1 h1 v r1 => o _ b1 t1 H1 x v Q S1 r1 h1⟩
theorem tCB_of {f : List D → Cm D} {r : List V → Hp → VK → Prop} {a : CA} (o : BuS K cl f r) (h : TEof K cl W (cCall f a) σ H Q) : tCB r (TAof K cl W a) σ H Q := by
  obtain ⟨bs, s, e, S, N, h⟩ := h
  exact ⟨bs, s, e, S, N, (Run.bnd h).imp fun x b1 t1 H1 g1 S1 h1 v r1 => o _ b1 t1 H1 x v Q S1 r1 h1⟩
end
section
variable {X : Cx} {cl : Str → Addr} {W : WX} {a b c : Expr} {es : List Expr} {ca cb cc : CE} {ta tb : CT} {aa : CA} {pos p : Pos}
theorem s_int {i j pos} : SE X cl W (.Constant (.int i) j pos) (cK (.int i)) := PE.imp pe_int fun _ _ _ ⟨_, _, _, S, _, h⟩ => Run.now S h _ (.int _)
theorem s_bl {i j pos} : SE X cl W (.Constant (.bool i) j pos) (cK (.bl i)) := PE.imp pe_bl fun _ _ _ ⟨_, _, _, S, _, h⟩ => Run.now S h _ (.bl _)
theorem s_str {i j pos} : SE X cl W (.Constant (.str i) j pos) (cK (.str i)) := PE.imp pe_str fun _ _ _ ⟨_, _, _, S, _, h⟩ => Run.now S h _ (.str _)
theorem s_non {j pos} : SE X cl W (.Constant .none j pos) (cK .non) := PE.imp pe_non fun _ _ _ ⟨_, _, _, S, _, h⟩ => Run.now S h _ .non
theorem s_var (i : Nat) {x : Str} {pos : Pos} (hN : X.N[i]? = some x := by rfl) (hv : Vis X.env.scope x := by first | exact Or.inl rfl | exact Or.inr (Or.inl rfl) | exact Or.inr (Or.inr rfl)) (hd : (x == ("__debug__" : Str)) = false := by decide)
    (hcd : (x == ("__classdict__" : Str)) = false := by decide) : SE X cl W (.Name x pos) (cV i) := PE.imp (pe_var hN hv hd hcd) fun σ H Q ⟨bs, s, e, S, N, h⟩ => by
  cases q : sl e i with
  | none => exact (Run.of_no h (by unfold cV; simp only [q]; rfl)).elim
  | some d =>
    obtain ⟨v, h1, r⟩ := N.at_ i d (sl_get.mp q)
    have e1 : cV i e = ret d := by unfold cV; rw [q]
    rw [e1] at h
    exact ⟨v, h1, Run.now S h v r⟩
/-- a constant of the module -/
theorem s_glob {x : Str} {d : D} {v : V} {u : Value} (hg : Gl X x) (hm : X.mg x = some u) (r : RelV v u) (hr : ∀ bs H, Rp X.K bs H d v) (hd : (x == ("__debug__" : Str)) = false := by decide) : SE X cl W (.Name x pos) (cK d) :=
  PE.imp (pe_glob hg hm r hd) fun _ _ _ ⟨_, _, _, S, _, h⟩ => Run.now S h _ (hr _ _)
theorem s_bin {op : Operator} {f : D → D → Cm D} (o : OpG X cl (binaryOp op) f) (ha : SE X cl W a ca) (hb : SE X cl W b cb) : SE X cl W (.BinOp a op b pos) (cBin f ca cb) := by
  obtain ⟨r, h1, h2⟩ := o
  exact PE.imp (pe_op h1 ha hb) fun σ H Q h => tOp_of h2 h
theorem us_neg {K : PySem.W.Frag} : UnS K cl dNeg (rU fun i => .int (-i)) := by
  intro W bs s H x v Q S r h
  cases x with
  | int i => exact ⟨i, r.int_inv, Run.now S h _ (.int _)⟩
  | _ => exact (show False from h).elim
theorem s_neg (ha : SE X cl W a ca) : SE X cl W (.UnaryOp .USub a pos) (cUn dNeg ca) := PE.imp (pe_un un_neg ha) fun σ H Q h => tUn_of us_neg h
theorem s_cmp {op : CmpOp} {f : D → D → Cm D} (o : OpG X cl (compareOp op) f) (ha : SE X cl W a ca) (hb : SE X cl W b cb) (hm : behindInMarks op b = false) : SE X cl W (.Compare a [op] [b] pos) (cBin f ca cb) := by
  obtain ⟨r, h1, h2⟩ := o
  exact PE.imp (pe_cmpR h1 ha hb hm) fun σ H Q h => tOp_of h2 h
theorem tTest_of {K : PySem.W.Frag} {t : TE} {σ : L2.St} {H : Hp} {Q : Bool → Hp → Prop} (i : ∀ Q, TEof K cl W ca σ H Q → t σ H Q) (h : TTof K cl W (tE ca) σ H Q) : tTest t σ H Q := by
  refine i _ ?_
  obtain ⟨bs, s, e, S, N, h⟩ := h
  refine ⟨bs, s, e, S, N, (Run.bnd h).imp fun x b1 t1 H1 g1 S1 h1 v r1 => ?_⟩
  cases x with
  | bl k => exact ⟨k, r1.bl_inv, Run.now S1 h1⟩
  | _ => exact (show False from h1).elim
theorem t_cmp {op : CmpOp} {f : D → D → Cm D} (o : OpG X cl (compareOp op) f) (ha : SE X cl W a ca) (hb : SE X cl W b cb) (hm : behindInMarks op b = false) : ST X cl W (.Compare a [op] [b] pos) (tE (cBin f ca cb)) := by
  obtain ⟨r, h1, h2⟩ := o
  exact PT.imp (pt_cmpR h1 ha hb hm) fun σ H Q h => tTest_of (fun Q h => tOp_of h2 h) h
/-- any expression that tells True or False -/
theorem t_val (ha : SE X cl W a ca) (he : ∀ whole, isTrue a X.env whole = (do let v ← whole; standAt a.pos; holding [v] (truthy v)) := by intro _; rfl) : ST X cl W a (tE ca) :=
  PT.imp (pt_val ha he) fun σ H Q h => tTest_of (fun _ h => h) h
theorem t_pw (h : SW X cl W a ta) : ST X cl W a ta := PW.pt h
theorem w_and1 (ha : ST X cl W a ta) : SW X cl W (.BoolOp .And [a] pos) ta := pw_and1 ha
theorem w_or1 (ha : ST X cl W a ta) : SW X cl W (.BoolOp .Or [a] pos) ta := pw_or1 ha
theorem w_and (ha : ST X cl W a ta) (hb : SW X cl W (.BoolOp .And (b :: es) pos) tb) : SW X cl W (.BoolOp .And (a :: b :: es) pos) (tAnd' ta tb) := PW.imp (pw_and ha hb) fun σ H Q ⟨bs, s, e, S, N, h⟩ => by
  refine ⟨bs, s, e, S, N, (Run.bnd h).imp fun x b1 t1 H1 g1 S1 h1 => ?_⟩
  cases x with
  | true => exact ⟨b1, t1, e, S1, N.mono g1, h1⟩
  | false => exact Run.now S1 (show Run _ _ _ _ _ _ (ret false) _ from h1)
theorem w_or (ha : ST X cl W a ta) (hb : SW X cl W (.BoolOp .Or (b :: es) pos) tb) : SW X cl W (.BoolOp .Or (a :: b :: es) pos) (tOr' ta tb) := PW.imp (pw_or ha hb) fun σ H Q ⟨bs, s, e, S, N, h⟩ => by
  refine ⟨bs, s, e, S, N, (Run.bnd h).imp fun x b1 t1 H1 g1 S1 h1 => ?_⟩
  cases x with
  | false => exact ⟨b1, t1, e, S1, N.mono g1, h1⟩
  | true => exact Run.now S1 (show Run _ _ _ _ _ _ (ret true) _ from h1)
theorem t_not (ha : ST X cl W a ta) : ST X cl W (.UnaryOp .Not a pos) (tNot' ta) := PT.imp (pt_not ha) fun σ H Q ⟨bs, s, e, S, N, h⟩ =>
  ⟨bs, s, e, S, N, (Run.bnd h).imp fun x b1 t1 H1 g1 S1 h1 => Run.now S1 h1⟩
theorem s_one {op} (h : SE X cl W a ca) : SE X cl W (.BoolOp op [a] pos) ca := pe_one h
theorem s_and (ha : SE X cl W a ca) (hb : SE X cl W (.BoolOp .And (b :: es) pos) cb) : SE X cl W (.BoolOp .And (a :: b :: es) pos) (cAnd ca cb) := PE.imp (pe_and ha hb) fun σ H Q ⟨bs, s, e, S, N, h⟩ => by
  refine ⟨bs, s, e, S, N, (Run.bnd h).imp fun x b1 t1 H1 g1 S1 h1 v r1 => ?_⟩
  cases x with
  | bl k =>
    refine ⟨k, r1.bl_inv, ?_⟩
    cases k with
    | true => exact ⟨b1, t1, e, S1, N.mono g1, h1⟩
    | false => exact Run.now S1 (show Run _ _ _ _ _ _ (ret (D.bl false)) _ from h1) _ (.bl _)
  | _ => exact (show False from h1).elim
theorem s_or (ha : SE X cl W a ca) (hb : SE X cl W (.BoolOp .Or (b :: es) pos) cb) : SE X cl W (.BoolOp .Or (a :: b :: es) pos) (cOr ca cb) := PE.imp (pe_or ha hb) fun σ H Q ⟨bs, s, e, S, N, h⟩ => by
  refine ⟨bs, s, e, S, N, (Run.bnd h).imp fun x b1 t1 H1 g1 S1 h1 v r1 => ?_⟩
  cases x with
  | bl k =>
    refine ⟨k, r1.bl_inv, ?_⟩
    cases k with
    | false => exact ⟨b1, t1, e, S1, N.mono g1, h1⟩
    | true => exact Run.now S1 (show Run _ _ _ _ _ _ (ret (D.bl true)) _ from h1) _ (.bl _)
  | _ => exact (show False from h1).elim
theorem s_not (ha : SE X cl W a ca) : SE X cl W (.UnaryOp .Not a pos) (cNot ca) := PE.imp (pe_not ha) fun σ H Q ⟨bs, s, e, S, N, h⟩ => by
  refine ⟨bs, s, e, S, N, (Run.bnd h).imp fun x b1 t1 H1 g1 S1 h1 v r1 => ?_⟩
  cases x with
  | bl k => exact ⟨k, r1.bl_inv, Run.now S1 (show Run _ _ _ _ _ _ (ret (D.bl (!k))) _ from h1) _ (.bl _)⟩
  | _ => exact (show False from h1).elim
theorem s_ifx (hc : ST X cl W c ta) (ha : SE X cl W a ca) (hb : SE X cl W b cb) : SE X cl W (.IfExp c a b pos) (cIf ta ca cb) := PE.imp (pe_ifExp hc ha hb) fun σ H Q ⟨bs, s, e, S, N, h⟩ => by
  refine ⟨bs, s, e, S, N, (Run.bnd h).imp fun x b1 t1 H1 g1 S1 h1 => ?_⟩
  cases x with
  | true => exact ⟨b1, t1, e, S1, N.mono g1, h1⟩
  | false => exact ⟨b1, t1, e, S1, N.mono g1, h1⟩
theorem tChain_of {K : PySem.W.Frag} {f g : D → D → Cm D} {r r' : R2} {σ : L2.St} {H : Hp} {Q : VK} (o : OpS K cl f r) (o' : OpS K cl g r') (h : TEof K cl W (cChain f g ca cb cc) σ H Q) : tChain r r' (TEof K cl W ca) (TEof K cl W cb) (TEof K cl W cc) σ H Q := by
  obtain ⟨bs, s, e, S, N, h⟩ := h
  refine ⟨bs, s, e, S, N, (Run.bnd h).imp fun x b1 t1 H1 g1 S1 h1 v r1 => ⟨b1, t1, e, S1, N.mono g1, (Run.bnd h1).imp fun y b2 t2 H2 g2 S2 h2 w r2 => ?_⟩⟩
  refine o _ b2 t2 H2 x y v w _ S2 (r1.mono g2) r2 ((Run.bnd h2).imp fun z b3 t3 H3 g3 S3 h3 u r3 => ?_)
  cases z with
  | bl k =>
    refine ⟨k, r3.bl_inv, ?_⟩
    cases k with
    | true => exact ⟨b3, t3, e, S3, ((N.mono g1).mono g2).mono g3, (Run.bnd h3).imp fun z b4 t4 H4 g4 S4 h4 u r4 => o' _ b4 t4 H4 y z w u Q S4 (r2.mono (g3.trans g4)) r4 h4⟩
    | false => exact Run.now S3 (show Run _ _ _ _ _ _ (ret (D.bl false)) _ from h3) _ (.bl _)
  | _ => exact (show False from h3).elim
theorem s_chain {op op' : CmpOp} {f g : D → D → Cm D} (o : OpG X cl (compareOp op) f) (o' : OpG X cl (compareOp op') g) (ha : SE X cl W a ca) (hb : SE X cl W b cb) (hc : SE X cl W c cc) (hm : lastMarks [op, op'] [b, c] = false := by with_unfolding_all rfl) :
    SE X cl W (.Compare a [op, op'] [b, c] pos) (cChain f g ca cb cc) := by
  obtain ⟨r, h1, h2⟩ := o
  obtain ⟨r', h1', h2'⟩ := o'
  exact PE.imp (pe_chain h1 h1' ha hb hc hm) fun σ H Q h => tChain_of h2 h2' h
theorem t_chain {op op' : CmpOp} {f g : D → D → Cm D} (o : OpG X cl (compareOp op) f) (o' : OpG X cl (compareOp op') g) (ha : SE X cl W a ca) (hb : SE X cl W b cb) (hc : SE X cl W c cc) (hm : lastMarks [op, op'] [b, c] = false := by with_unfolding_all rfl) :
    ST X cl W (.Compare a [op, op'] [b, c] pos) (tE (cChain f g ca cb cc)) := by
  obtain ⟨r, h1, h2⟩ := o
  obtain ⟨r', h1', h2'⟩ := o'
  exact PT.imp (pt_chain h1 h1' ha hb hc hm) fun σ H Q h => tTest_of (fun Q h => tChain_of h2 h2' h) h
/-! a chain of three -/
def tChain3 (r r' r'' : R2) (ta tb tc td : TE) : TE := fun σ H Q => ta σ H fun x H1 => tb σ H1 fun y H2 => r x y H2 fun z H3 => ∃ k, z = .bl k ∧
  (if k = true then tc σ H3 fun x2 H4 => r' y x2 H4 (fun z2 H5 => ∃ k2, z2 = .bl k2 ∧ (if k2 = true then td σ H5 fun x3 H6 => r'' x2 x3 H6 Q else Q (.bl false) H5)) else Q (.bl false) H3)
theorem pt_chain3 {op op' op'' : CmpOp} {r r' r'' : R2} {d : Expr} {ta tb tc td : TE} (o1 : OpR X (compareOp op) r) (o2 : OpR X (compareOp op') r') (o3 : OpR X (compareOp op'') r'') (ha : PE X a ta) (hb : PE X b tb) (hc : PE X c tc) (hd : PE X d td)
    (hm : lastMarks [op, op', op''] [b, c, d] = false := by with_unfolding_all rfl) : PT X (.Compare a [op, op', op''] [b, c, d] pos) (tTest (tChain3 r r' r'' ta tb tc td)) := by
  refine ⟨fun pins s σ H Q I h => isTrue_chain (thn (ha.run pins s σ H _ I h) fun va sa ⟨xa, Ha, Ia, ra, qa⟩ => ?_) hm⟩
  refine test_link (thn (hb.run pins sa σ Ha _ Ia qa) fun vb sb ⟨xb, Hb, Ib, rb, qb⟩ => thn (o1 pins sb σ Hb xa xb va vb _ Ib ra rb qb) fun vz sz ⟨xz, Hz, Iz, rz, k, ek, qz⟩ => ?_)
  subst ek
  cases rz
  refine wpAny_truthy_bool (Q := fun t s' => if t then _ else _) ?_
  cases k with
  | false =>
    obtain ⟨m, em, qm⟩ := qz
    cases em
    exact ite_ff ⟨Hz, Iz, qm⟩
  | true =>
    refine ite_tt (test_link (thn (hc.run pins sz σ Hz _ Iz qz) fun vc sc ⟨xc, Hc, Ic, rc, qc⟩ => thn (o2 pins sc σ Hc xb xc vb vc _ Ic rb rc qc) fun vy sy ⟨xy, Hy, Iy, ry, l, el, qy⟩ => ?_))
    subst el
    cases ry
    refine wpAny_truthy_bool (Q := fun t s' => if t then _ else _) ?_
    cases l with
    | false =>
      obtain ⟨m, em, qm⟩ := qy
      cases em
      exact ite_ff ⟨Hy, Iy, qm⟩
    | true =>
      refine ite_tt (test_last (thn (hd.run pins sy σ Hy _ Iy qy) fun vd sd ⟨xd, Hd, Id, rd, qd⟩ => thn (o3 pins sd σ Hd xc xd vc vd _ Id rc rd qd) fun vw sw ⟨xw, Hw, Iw, rw', n, en, qw⟩ => ?_))
      subst en
      cases rw'
      exact wpAny_truthy_bool (⟨Hw, Iw, qw⟩ : TP X pins σ Q n sw)
theorem tChain3_of {K : PySem.W.Frag} {f g h' : D → D → Cm D} {r r' r'' : R2} {cd : CE} {σ : L2.St} {H : Hp} {Q : VK} (o : OpS K cl f r) (o' : OpS K cl g r') (o'' : OpS K cl h' r'') (h : TEof K cl W (cChain3 f g h' ca cb cc cd) σ H Q) :
    tChain3 r r' r'' (TEof K cl W ca) (TEof K cl W cb) (TEof K cl W cc) (TEof K cl W cd) σ H Q := by
  obtain ⟨bs, s, e, S, N, h⟩ := h
  refine ⟨bs, s, e, S, N, (Run.bnd h).imp fun x b1 t1 H1 g1 S1 h1 v r1 => ⟨b1, t1, e, S1, N.mono g1, (Run.bnd h1).imp fun y b2 t2 H2 g2 S2 h2 w r2 => ?_⟩⟩
  refine o _ b2 t2 H2 x y v w _ S2 (r1.mono g2) r2 ((Run.bnd h2).imp fun z b3 t3 H3 g3 S3 h3 u r3 => ?_)
  cases z with
  | bl k =>
    refine ⟨k, r3.bl_inv, ?_⟩
    cases k with
    | false => exact Run.now S3 (show Run _ _ _ _ _ _ (ret (D.bl false)) _ from h3) _ (.bl _)
    | true =>
      have N3 := ((N.mono g1).mono g2).mono g3
      refine ⟨b3, t3, e, S3, N3, (Run.bnd h3).imp fun x2 b4 t4 H4 g4 S4 h4 u2 r4 => ?_⟩
      refine o' _ b4 t4 H4 y x2 w u2 _ S4 (r2.mono (g3.trans g4)) r4 ((Run.bnd h4).imp fun z2 b5 t5 H5 g5 S5 h5 u3 r5 => ?_)
      cases z2 with
      | bl k2 =>
        refine ⟨k2, r5.bl_inv, ?_⟩
        cases k2 with
        | false => exact Run.now S5 (show Run _ _ _ _ _ _ (ret (D.bl false)) _ from h5) _ (.bl _)
        | true => exact ⟨b5, t5, e, S5, (N3.mono g4).mono g5, (Run.bnd h5).imp fun x3 b6 t6 H6 g6 S6 h6 u4 r6 => o'' _ b6 t6 H6 x2 x3 u2 u4 Q S6 (r4.mono (g5.trans g6)) r6 h6⟩
      | _ => exact (show False from h5).elim
  | _ => exact (show False from h3).elim
theorem t_chain3 {op op' op'' : CmpOp} {d : Expr} {cd : CE} {f g h : D → D → Cm D} (o : OpG X cl (compareOp op) f) (o' : OpG X cl (compareOp op') g) (o'' : OpG X cl (compareOp op'') h) (ha : SE X cl W a ca) (hb : SE X cl W b cb) (hc : SE X cl W c cc) (hd : SE X cl W d cd) (hm : lastMarks [op, op', op''] [b, c, d] = false := by with_unfolding_all rfl) :
    ST X cl W (.Compare a [op, op', op''] [b, c, d] pos) (tE (cChain3 f g h ca cb cc cd)) := by
  obtain ⟨r, h1, h2⟩ := o
  obtain ⟨r', h1', h2'⟩ := o'
  obtain ⟨r'', h1'', h2''⟩ := o''
  exact PT.imp (pt_chain3 h1 h1' h1'' ha hb hc hd hm) fun σ H Q h => tTest_of (fun Q h => tChain3_of h2 h2' h2'' h) h
/-! arguments, displays -/
theorem a_nil : SA X cl W [] aNil := PA.imp pa_nil fun σ H Q ⟨bs, s, e, S, N, h⟩ => Run.now S h _ .nil
theorem a_cons (ha : SE X cl W a ca) (hr : SA X cl W es aa) (hs : starEach (a :: es) X.env = (false, eval a X.env) :: starEach es X.env := by rfl) : SA X cl W (a :: es) (aCons ca aa) := PA.imp (pa_cons ha hr hs) fun σ H Q ⟨bs, s, e, S, N, h⟩ =>
  ⟨bs, s, e, S, N, (Run.bnd h).imp fun x b1 t1 H1 g1 S1 h1 v r1 => ⟨b1, t1, e, S1, N.mono g1, (Run.bnd h1).imp fun xs b2 t2 H2 g2 S2 h2 vs r2 => Run.now S2 h2 _ (.cons (r1.mono g2) r2)⟩⟩
theorem s_tup {x1} (h : SA X cl W es aa) : SE X cl W (.Tuple es x1 pos) (cTup aa) := PE.imp (pe_tup h) fun σ H Q ⟨bs, s, e, S, N, h⟩ =>
  ⟨bs, s, e, S, N, (Run.bnd h).imp fun xs b1 t1 H1 g1 S1 h1 vs r1 => by
    obtain ⟨c, h1⟩ := Run.ite h1
    exact ⟨by rw [← r1.length]; exact big_line c, fun p hp => Run.newT S1 hp r1 h1⟩⟩
theorem s_lst (h : SA X cl W es aa) : SE X cl W (.List es pos) (cLst aa) := PE.imp (pe_lst h) fun σ H Q ⟨bs, s, e, S, N, h⟩ =>
  ⟨bs, s, e, S, N, (Run.bnd h).imp fun xs b1 t1 H1 g1 S1 h1 vs r1 => by
    obtain ⟨c, h1⟩ := Run.ite h1
    exact ⟨by rw [← r1.length]; exact big_line c, fun p hp => Run.newL S1 hp r1 h1⟩⟩
theorem l_lst (h : SA X cl W es aa) : SL X cl W (.List es pos) (cChk aa) := PE.imp (pe_lst h) fun σ H Q ⟨bs, s, e, S, N, h⟩ =>
  ⟨bs, s, e, S, N, (Run.bnd h).imp fun xs b1 t1 H1 g1 S1 h1 vs r1 => by
    obtain ⟨c, h1⟩ := Run.ite h1
    exact ⟨by rw [← r1.length]; exact big_line c, fun p hp => Run.now S1 h1 p vs hp r1⟩⟩
theorem tNew_of {K : PySem.W.Frag} {σ : L2.St} {H : Hp} {Q : VK} {ca : CA} (h : TEof K cl W (cNew ca) σ H Q) : TLof K cl W ca σ H Q := by
  obtain ⟨bs, s, e, S, N, h⟩ := h
  exact ⟨bs, s, e, S, N, (Run.bnd h).imp fun xs b1 t1 H1 g1 S1 h1 p vs hp r1 => Run.newL S1 hp r1 h1⟩
theorem s_new {ca : CA} (h : SL X cl W a ca) : SE X cl W a (cNew ca) := PE.imp h fun σ H Q h => tNew_of h
/-! == of scalars, is None, in -/
theorem eqS_ok {K : PySem.W.Frag} {bs : List Addr} {H : Hp} {x y : D} {v w : V} {b : Bool} (h : eqS x y = some b) (r1 : Rp K bs H x v) (r2 : Rp K bs H y w) : scal v w = true ∧ decide (v = w) = b := by
  cases x <;> cases y <;> first | exact (Option.noConfusion h) | skip
  all_goals (cases r1; cases r2; cases h <;> first | exact ⟨rfl, rfl⟩ | exact ⟨rfl, by simp⟩)
mutual
theorem dp_of {K : PySem.W.Frag} {bs : List Addr} {s : Sto} {H : Hp} (S : StR K cl bs s H) : ∀ (n : Nat) (x : D) (v : V) (d : PyData), Rp K bs H x v → datD s n x = some d → Dp K H v d
  | 0, _, _, _, _, h => by cases h
  | _ + 1, .non, _, _, r, h => by cases h; cases r; exact .non
  | _ + 1, .bl b, _, _, r, h => by cases h; cases r; exact .bl b
  | _ + 1, .int b, _, _, r, h => by cases h; cases r; exact .int b
  | _ + 1, .str b, _, _, r, h => by cases h; cases r; exact .str b
  | n + 1, .tup ds, _, d, r, h => by
    have h : (datL (datD s n) ds).map .tuple = some d := h
    cases e : datL (datD s n) ds with
    | none => rw [e] at h; cases h
    | some xs =>
      rw [e] at h
      cases h
      cases r with
      | tup h1 h2 => exact .tup (sqT_mono (fun a o e => (hid_some e).2) h1) (dpL_of S n ds _ xs h2 e)
  | n + 1, .lst ds, _, d, r, h => by
    have h : (datL (datD s n) ds).map .list = some d := h
    cases e : datL (datD s n) ds with
    | none => rw [e] at h; cases h
    | some xs =>
      rw [e] at h
      cases h
      cases r with
      | lst h1 h2 => exact .lst (fzL_mono (fun a o e => (hid_some e).2) h1).sq (dpL_of S n ds _ xs h2 e)
  | n + 1, .box j, v, d, r, h => by
    have h : (match lAt s j with | some ds => (datL (datD s n) ds).map .list | none => none) = some d := h
    cases q : lAt s j with
    | none => rw [q] at h; cases h
    | some ds =>
      rw [q] at h
      have h : (datL (datD s n) ds).map .list = some d := h
      cases e : datL (datD s n) ds with
      | none => rw [e] at h; cases h
      | some xs =>
        rw [e] at h
        cases h
        obtain ⟨p, vs, rfl, _, e2, e3⟩ := S.lst q r
        exact .lst (SqL.of e2) (dpL_of S n ds vs xs e3 e)
theorem dpL_of {K : PySem.W.Frag} {bs : List Addr} {s : Sto} {H : Hp} (S : StR K cl bs s H) : ∀ (n : Nat) (xs : List D) (vs : List V) (ds : List PyData), RpL K bs H xs vs → datL (datD s n) xs = some ds → DpAll K H vs ds
  | n, [], _, _, r, h => by cases h; cases r; exact .nil
  | n, x :: xs, _, ds, r, h => by
    have h : (match datD s n x, datL (datD s n) xs with | some y, some ys => some (y :: ys) | _, _ => none) = some ds := h
    cases e1 : datD s n x with
    | none => rw [e1] at h; cases h
    | some y =>
      cases e2 : datL (datD s n) xs with
      | none => rw [e1, e2] at h; cases h
      | some ys =>
        rw [e1, e2] at h
        cases h
        cases r with
        | cons r1 r2 => exact .cons (dp_of S n x _ y r1 e1) (dpL_of S n xs _ ys r2 e2)
end
theorem eqX_ok {K : PySem.W.Frag} {bs : List Addr} {s : Sto} {H : Hp} {x y : D} {v w : V} {b : Bool} (S : StR K cl bs s H) (h : eqX s x y = some b) (r1 : Rp K bs H x v) (r2 : Rp K bs H y w) :
    (scal v w = true ∧ decide (v = w) = b) ∨ ∃ d e, Dp K H v d ∧ Dp K H w e ∧ SeqAt.shaped d = true ∧ SeqAt.shaped e = true ∧ PyData.eqv d e = b := by
  unfold eqX at h
  cases e : eqS x y with
  | some c => rw [e] at h; cases h; exact .inl (eqS_ok e r1 r2)
  | none =>
    rw [e] at h
    simp only at h
    cases e1 : datD s 9 x with
    | none => rw [e1] at h; cases h
    | some d =>
      cases e2 : datD s 9 y with
      | none => rw [e1, e2] at h; cases h
      | some f =>
        rw [e1, e2] at h
        simp only at h
        by_cases c : SeqAt.shaped d = true ∧ SeqAt.shaped f = true
        · rw [if_pos c] at h
          cases h
          exact .inr ⟨d, f, dp_of S 9 x v d r1 e1, dp_of S 9 y w f r2 e2, c.1, c.2, rfl⟩
        · rw [if_neg c] at h; cases h
theorem og_eq (hu : X.A.units + 64 < cLine) : OpG X cl (compareOp .Eq) dEq := by
  refine ⟨_, op_eq.or (op_eqD hu), ?_⟩
  intro W bs s H x y v w Q S r1 r2 h
  cases e : eqX s x y with
  | none => exact (Run.of_no h (by unfold dEq; simp only [e])).elim
  | some b =>
    have q := Run.of_ok h (a := .bl b) (t := s) (by unfold dEq; simp only [e]) bs H (Gr.refl _ _) S _ (.bl b)
    rcases eqX_ok S e r1 r2 with ⟨h1, h2⟩ | ⟨d, f, h1, h2, h3, h4, h5⟩
    · exact .inl ⟨h1, by rw [h2]; exact q⟩
    · exact .inr ⟨d, f, h1, h2, h3, h4, by rw [h5]; exact q⟩
theorem og_ne (hu : X.A.units + 64 < cLine) : OpG X cl (compareOp .NotEq) dNe := by
  refine ⟨_, op_ne.or (op_neD hu), ?_⟩
  intro W bs s H x y v w Q S r1 r2 h
  cases e : eqX s x y with
  | none => exact (Run.of_no h (by unfold dNe; simp only [e])).elim
  | some b =>
    have q := Run.of_ok h (a := .bl (!b)) (t := s) (by unfold dNe; simp only [e]) bs H (Gr.refl _ _) S _ (.bl _)
    rcases eqX_ok S e r1 r2 with ⟨h1, h2⟩ | ⟨d, f, h1, h2, h3, h4, h5⟩
    · exact .inl ⟨h1, by rw [h2]; exact q⟩
    · exact .inr ⟨d, f, h1, h2, h3, h4, by rw [h5]; exact q⟩
theorem og_isB : OpG X cl (compareOp .Is) dIsB := by
  refine ⟨_, op_isBl, ?_⟩
  intro W bs s H x y v w Q S r1 r2 h
  unfold dIsB at h
  split at h
  · exact ⟨_, _, r1.bl_inv, r2.bl_inv, Run.now S h _ (.bl _)⟩
  · exact h.elim
theorem og_notB : OpG X cl (compareOp .IsNot) dNotB := by
  refine ⟨_, op_notBl, ?_⟩
  intro W bs s H x y v w Q S r1 r2 h
  unfold dNotB at h
  split at h
  · exact ⟨_, _, r1.bl_inv, r2.bl_inv, Run.now S h _ (.bl _)⟩
  · exact h.elim
theorem s_bits {apos : Pos} (ha : SE X cl W a ca) (hbase : attributeBase a "bit_length" X.env (eval a X.env) = eval a X.env := by rfl) (hline : (apos.endLine == pos.line) = true := by rfl) : SE X cl W (.Call (.Attribute a "bit_length" apos) [] [] pos) (cUn dBits ca) :=
  PE.imp (pe_bits ha hbase hline) fun σ H Q ⟨bs, s, e, S, N, h⟩ => ⟨bs, s, e, S, N, (Run.bnd h).imp fun x b1 t1 H1 g1 S1 h1 v r1 => by
    cases x with
    | int i => exact ⟨i, r1.int_inv, Run.now S1 h1 _ (.int _)⟩
    | _ => exact (show False from h1).elim⟩
theorem isNon_ok {K : PySem.W.Frag} {bs : List Addr} {H : Hp} {x : D} {v : V} (r : Rp K bs H x v) : decide (v = .non) = isNon x := by cases r <;> rfl
theorem tIsN_of {K : PySem.W.Frag} {σ : L2.St} {H : Hp} {Q : VK} (h : TEof K cl W (cUn dIsN ca) σ H Q) : tIsN (TEof K cl W ca) σ H Q := by
  obtain ⟨bs, s, e, S, N, h⟩ := h
  exact ⟨bs, s, e, S, N, (Run.bnd h).imp fun x b1 t1 H1 g1 S1 h1 v r1 => by show Q (V.bl (decide (v = V.non))) H1; rw [isNon_ok r1]; exact Run.now S1 h1 _ (.bl _)⟩
theorem tNotN_of {K : PySem.W.Frag} {σ : L2.St} {H : Hp} {Q : VK} (h : TEof K cl W (cUn dNotN ca) σ H Q) : tNotN (TEof K cl W ca) σ H Q := by
  obtain ⟨bs, s, e, S, N, h⟩ := h
  exact ⟨bs, s, e, S, N, (Run.bnd h).imp fun x b1 t1 H1 g1 S1 h1 v r1 => by show Q (V.bl (!decide (v = V.non))) H1; rw [isNon_ok r1]; exact Run.now S1 h1 _ (.bl _)⟩
theorem s_isN {j p1} (ha : SE X cl W a ca) : SE X cl W (.Compare a [.Is] [.Constant .none j p1] pos) (cUn dIsN ca) := PE.imp (pe_cmp (pc_isN ha)) fun σ H Q h => tIsN_of h
theorem s_notN {j p1} (ha : SE X cl W a ca) : SE X cl W (.Compare a [.IsNot] [.Constant .none j p1] pos) (cUn dNotN ca) := PE.imp (pe_cmp (pc_notN ha)) fun σ H Q h => tNotN_of h
theorem t_isN {j p1} (ha : SE X cl W a ca) : ST X cl W (.Compare a [.Is] [.Constant .none j p1] pos) (tE (cUn dIsN ca)) := PT.imp (pt_cmp (pc_isN ha)) fun σ H Q h => tTest_of (fun Q h => tIsN_of h) h
theorem t_notN {j p1} (ha : SE X cl W a ca) : ST X cl W (.Compare a [.IsNot] [.Constant .none j p1] pos) (tE (cUn dNotN ca)) := PT.imp (pt_cmp (pc_notN ha)) fun σ H Q h => tTest_of (fun Q h => tNotN_of h) h
theorem flat_ok {K : PySem.W.Frag} {bs : List Addr} {H : Hp} {x : D} {v : V} (h : flatD x = true) (r : Rp K bs H x v) : flatV v = true := by
  cases r <;> first | rfl | exact (Bool.noConfusion h)
theorem eqV_ok {K : PySem.W.Frag} {bs : List Addr} {H : Hp} {x y : D} {v w : V} (h : flatD x = true) (h' : flatD y = true) (r : Rp K bs H x v) (r' : Rp K bs H y w) : eqV v w = eqD x y := by
  cases r <;> first | exact (Bool.noConfusion h) | skip
  all_goals (cases r' <;> first | rfl | exact (Bool.noConfusion h'))
theorem in_ok {K : PySem.W.Frag} {bs : List Addr} {H : Hp} {x : D} {v : V} (hx : flatD x = true) (r : Rp K bs H x v) : ∀ {ds : List D} {vs : List V}, ds.all flatD = true → RpL K bs H ds vs → vs.all flatV = true ∧ inV v vs = inD x ds
  | [], _, _, .nil => ⟨rfl, rfl⟩
  | d :: ds, _, h, .cons h1 h2 => by
    rw [List.all_cons, Bool.and_eq_true] at h
    obtain ⟨i1, i2⟩ := in_ok hx r h.2 h2
    refine ⟨by rw [List.all_cons, flat_ok h.1 h1, i1]; rfl, ?_⟩
    unfold inV inD at *
    rw [List.any_cons, List.any_cons, i2, eqV_ok h.1 hx h1 r]
theorem ops_in {K : PySem.W.Frag} {neg : Bool} : OpS K cl (dIn neg) (rIn K neg) := by
  intro W bs s H x y v w Q S r1 r2 h
  cases e : itemsOf s y with
  | none => exact (Run.of_no h (by unfold dIn; simp only [e])).elim
  | some ys =>
    by_cases c : flatD x = true ∧ ys.all flatD = true
    · obtain ⟨p, vs, e1, e2, e3⟩ := S.items e r2
      obtain ⟨f1, f2⟩ := in_ok c.1 r1 c.2 e3
      refine ⟨p, vs, e1, e2, flat_ok c.1 r1, f1, ?_⟩
      rw [f2]
      exact Run.of_ok h (by unfold dIn; simp only [e]; rw [if_pos c]) bs H (Gr.refl _ _) S _ (.bl _)
    · exact (Run.of_no h (by unfold dIn; simp only [e]; rw [if_neg c])).elim
theorem og_in : OpG X cl (compareOp .In) (dIn false) := ⟨_, op_in_seq, ops_in⟩
theorem og_nin : OpG X cl (compareOp .NotIn) (dIn true) := ⟨_, op_notIn_seq, ops_in⟩
theorem tInA_of {K : PySem.W.Frag} {neg : Bool} {ca : CA} {σ : L2.St} {H : Hp} {Q : VK} (h : TEof K cl W (cInA neg cb ca) σ H Q) : tOp (rIn K neg) (TEof K cl W cb) (TLof K cl W ca) σ H Q := by
  obtain ⟨bs, s, e, S, N, h⟩ := h
  refine ⟨bs, s, e, S, N, (Run.bnd h).imp fun x b1 t1 H1 g1 S1 h1 v r1 => ⟨b1, t1, e, S1, N.mono g1, (Run.bnd h1).imp fun ys b2 t2 H2 g2 S2 h2 p vs hp r2 => ?_⟩⟩
  obtain ⟨c, h2⟩ := Run.ite h2
  obtain ⟨f1, f2⟩ := in_ok c.1 (r1.mono g2) c.2 r2
  refine ⟨p, vs, rfl, .inl (SqL.of upd_same), flat_ok c.1 (r1.mono g2), f1, ?_⟩
  rw [f2]
  exact Run.of_ret h2 b2 _ (gr_new hp) (S2.new hp) _ (.bl _)
theorem s_inA {ca : CA} (hb : SE X cl W b cb) (ha : SL X cl W a ca) (hm : behindInMarks .In a = false) : SE X cl W (.Compare b [.In] [a] pos) (cInA false cb ca) := PE.imp (pe_cmpR op_in_seq hb ha hm) fun σ H Q h => tInA_of h
theorem s_ninA {ca : CA} (hb : SE X cl W b cb) (ha : SL X cl W a ca) (hm : behindInMarks .NotIn a = false) : SE X cl W (.Compare b [.NotIn] [a] pos) (cInA true cb ca) := PE.imp (pe_cmpR op_notIn_seq hb ha hm) fun σ H Q h => tInA_of h
theorem t_inA {ca : CA} (hb : SE X cl W b cb) (ha : SL X cl W a ca) (hm : behindInMarks .In a = false) : ST X cl W (.Compare b [.In] [a] pos) (tE (cInA false cb ca)) := PT.imp (pt_cmpR op_in_seq hb ha hm) fun σ H Q h => tTest_of (fun Q h => tInA_of h) h
theorem t_ninA {ca : CA} (hb : SE X cl W b cb) (ha : SL X cl W a ca) (hm : behindInMarks .NotIn a = false) : ST X cl W (.Compare b [.NotIn] [a] pos) (tE (cInA true cb ca)) := PT.imp (pt_cmpR op_notIn_seq hb ha hm) fun σ H Q h => tTest_of (fun Q h => tInA_of h) h
/-! ### rows: lists, tuples, texts -/
theorem chars_ok {K : PySem.W.Frag} {bs : List Addr} {H : Hp} (z : Str) : RpL K bs H (chars z) (z.cps.toList.map fun c => V.str ⟨#[c]⟩) := by
  unfold chars
  generalize z.cps.toList = l
  induction l with
  | nil => exact .nil
  | cons c l ih => exact .cons (.str _) ih
theorem str_len {z : Str} (h : z.length ≤ big) : z.length ≤ sizeLine := big_line h
/-- what stands for a row -/
theorem StR.row {K : PySem.W.Frag} {bs : List Addr} {s : Sto} {H : Hp} (S : StR K cl bs s H) {x : D} {ds : List D} (h : rowOf s x = some ds) {v : V} (r : Rp K bs H x v) :
    (∃ p vs, v = .ref p ∧ (SqL K H p vs ∨ SqT K H p vs) ∧ RpL K bs H ds vs) ∨ ∃ z, x = .str z ∧ v = .str z ∧ z.length ≤ big ∧ ds = chars z := by
  cases x with
  | str z =>
    unfold rowOf at h
    by_cases c : z.length ≤ big
    · simp only [if_pos c] at h
      cases h
      exact .inr ⟨z, rfl, r.str_inv, c, rfl⟩
    · simp only [if_neg c] at h
      cases h
  | _ => exact .inl (S.items (by simpa [rowOf] using h) r)
/-! subscripts, slices -/
theorem atI_ok {K : PySem.W.Frag} {bs : List Addr} {H : Hp} {ds : List D} {vs : List V} {i : Int} {d : D} (r : RpL K bs H ds vs) (h : atI ds i = some d) : ∃ v, atI vs i = some v ∧ Rp K bs H d v := by
  unfold atI at *
  rw [← r.length]
  cases e : ixN ds.length i with
  | none => rw [e] at h; cases h
  | some j =>
    rw [e] at h
    obtain ⟨v, h1, h2⟩ := r.get (show ds[j]? = some d from h)
    exact ⟨v, h1, h2⟩
theorem ops_ix {K : PySem.W.Frag} : OpS K cl dIx (rIx K) := by
  intro W bs s H x y v w Q S r1 r2 h
  cases e : rowOf s x with
  | none => exact (Run.of_no h (by unfold dIx; simp only [e])).elim
  | some xs =>
    cases y with
    | int i =>
      cases e2 : atI xs i with
      | none => exact (Run.of_no h (by unfold dIx; simp only [e, e2])).elim
      | some d =>
        have k := Run.of_ok h (a := d) (t := s) (by unfold dIx; simp only [e, e2]) bs H (Gr.refl _ _) S
        rcases S.row e r1 with ⟨p, vs, e3, e4, e5⟩ | ⟨z, rfl, e3, e4, rfl⟩
        · obtain ⟨u, h1, h2⟩ := atI_ok e5 e2
          have q := k u h2
          rcases e4 with e4 | e4
          · exact .inl ⟨p, vs, i, u, e3, r2.int_inv, e4, h1, q⟩
          · exact .inr (.inl ⟨p, vs, i, u, e3, r2.int_inv, e4, h1, q⟩)
        · have e5 : ∃ c, atI z.cps.toList i = some c ∧ d = .str ⟨#[c]⟩ := by
            unfold atI at e2 ⊢
            have hl : (chars z).length = z.cps.toList.length := by simp [chars]
            rw [hl] at e2
            cases e6 : ixN z.cps.toList.length i with
            | none => rw [e6] at e2; cases e2
            | some j =>
              rw [e6] at e2
              have e2 : (chars z)[j]? = some d := e2
              unfold chars at e2
              rw [List.getElem?_map] at e2
              cases e7 : z.cps.toList[j]? with
              | none => rw [e7] at e2; cases e2
              | some c => rw [e7] at e2; cases e2; exact ⟨c, e7, rfl⟩
          obtain ⟨c, e5, rfl⟩ := e5
          exact .inr (.inr ⟨z, i, c, e3, r2.int_inv, str_len e4, e5, k _ (.str _)⟩)
    | _ => exact (Run.of_no h (by unfold dIx; simp only [e])).elim
theorem s_ix (ha : SE X cl W a ca) (hb : SE X cl W b cb) (hs : PlainIx b := by intro _ _; rfl) : SE X cl W (.Subscript a b pos) (cBin dIx ca cb) := PE.imp (pe_ix ix_seq ha hb hs) fun σ H Q h => tOp_of ops_ix h
/-- an item of a list that nobody holds on to -/
theorem s_pick {ca : CA} (ha : SL X cl W a ca) (hb : SE X cl W b cb) (hs : PlainIx b := by intro _ _; rfl) : SE X cl W (.Subscript a b pos) (cPick ca cb) := PE.imp (pe_ix ix_seq ha hb hs) fun σ H Q ⟨bs, s, e, S, N, h⟩ => by
  refine ⟨bs, s, e, S, N, (Run.bnd h).imp fun xs b1 t1 H1 g1 S1 h1 p vs hp r1 => ?_⟩
  have g2 : Gr b1 H1 b1 (upd H1 p (.lst vs)) := gr_new hp
  have S2 : StR X.K cl b1 t1 (upd H1 p (.lst vs)) := S1.new hp
  refine ⟨b1, t1, e, S2, (N.mono g1).mono g2, ((Run.bnd h1).up g2).imp fun y b3 t3 H3 g3 S3 h3 w r3 => ?_⟩
  obtain ⟨k1, k2⟩ := g3.keep p _ upd_same (S1.fresh hp)
  have r4 := (r1.mono g2).mono g3
  cases y with
  | int i =>
    cases e2 : atI xs i with
    | none => exact (Run.of_no h3 (by simp only [pickD, e2]; rfl)).elim
    | some d =>
      obtain ⟨u, q1, q2⟩ := atI_ok r4 e2
      have q := Run.of_ok h3 (a := d) (t := t3) (by simp only [pickD, e2]; rfl) b3 H3 (Gr.refl _ _) S3 u q2
      exact .inl ⟨p, vs, i, u, rfl, r3.int_inv, SqL.of k1, q1, q⟩
  | _ => exact (show False from h3).elim
theorem o_none : SO X cl W none oNone := PO.imp po_none fun σ H Q ⟨bs, s, e, S, N, h⟩ => Run.now S h
theorem o_some (ha : SE X cl W a ca) : SO X cl W (some a) (oSome ca) := PO.imp (po_some ha) fun σ H Q ⟨bs, s, e, S, N, h⟩ =>
  ⟨bs, s, e, S, N, (Run.bnd h).imp fun x b1 t1 H1 g1 S1 h1 v r1 => by
    cases x with
    | int i => exact ⟨i, r1.int_inv, Run.now S1 h1⟩
    | _ => exact (show False from h1).elim⟩
theorem cut_ok {K : PySem.W.Frag} {bs : List Addr} {H : Hp} {ds : List D} {vs : List V} (r : RpL K bs H ds vs) (lo hi : Option Int) : RpL K bs H (cutD ds lo hi) (cutV vs lo hi) := by
  unfold cutD cutV
  rw [← r.length]
  exact (r.drop _).take _
theorem s_sl {lo hi : Option Expr} {cl' ch : CO} {p2 : Pos} (ha : SE X cl W a ca) (hl : SO X cl W lo cl') (hh : SO X cl W hi ch) : SE X cl W (.Subscript a (.Slice lo hi none p2) pos) (cSl ca cl' ch) := by
  refine PE.imp (pe_slice (sl_list.or sl_tupA) ha hl hh) fun σ H Q ⟨bs, s, e, S, N, h⟩ => ?_
  refine ⟨bs, s, e, S, N, (Run.bnd h).imp fun x b1 t1 H1 g1 S1 h1 v r1 => ⟨b1, t1, e, S1, N.mono g1, (Run.bnd h1).imp fun l b2 t2 H2 g2 S2 h2 => ⟨b2, t2, e, S2, (N.mono g1).mono g2, (Run.bnd h2).imp fun u b3 t3 H3 g3 S3 h3 => ?_⟩⟩⟩
  have r3 := r1.mono (g2.trans g3)
  cases x with
  | tup xs =>
    cases r3 with
    | @tup _ p vs q1 q2 =>
      refine .inr ⟨p, vs, rfl, sqT_mono (fun a o e => (hid_some e).2) q1, fun c => ?_, fun _ n hn => Run.newT S3 hn (cut_ok q2 l u) h3⟩
      have e1 : cutD xs l u = xs := by
        unfold cutD
        rw [q2.length, c.1, c.2]
        simp only [List.drop_zero, Nat.sub_zero]
        rw [← q2.length]
        exact List.take_length
      have e2 : dSl (.tup xs) l u = ret (D.tup xs) := by simp only [dSl, e1]
      rw [e2] at h3
      exact Run.now S3 h3 _ (.tup q1 q2)
  | lst xs =>
    cases r3 with
    | @lst _ p vs q1 q2 => exact .inl ⟨p, vs, rfl, (fzL_mono (fun a o e => (hid_some e).2) q1).sq, fun n hn => Run.newL S3 hn (cut_ok q2 l u) h3⟩
  | box j =>
    cases e1 : lAt t3 j with
    | none => exact (Run.of_no h3 (by simp only [dSl, e1])).elim
    | some xs =>
      obtain ⟨p, vs, e2, _, e3, e4⟩ := S3.lst e1 r3
      refine .inl ⟨p, vs, e2, SqL.of e3, fun n hn => Run.newL S3 hn (cut_ok e4 l u) (W := fun u dx H' => W u dx σ H') ?_⟩
      unfold Run at h3 ⊢
      simp only [dSl, e1] at h3
      exact h3
  | _ => exact (show False from h3).elim
end
end G

set_option Elab.async false
set_option linter.all false
set_option maxRecDepth 100000
set_option maxHeartbeats 4000000
/-! G, soundness: built-ins, calls, loops, statements, defs. -/
namespace G
open PySem L2 PySem.Spec PyProof.Rows

section
variable {X : Cx} {cl : Str → Addr} {W : WX} {a b c e0 : Expr} {es : List Expr} {ca cb cc : CE} {ta tb : CT} {aa : CA} {pos p : Pos} {x : Str}
/-! ### built-ins by name -/
theorem s_bu {id : String} {f : List D → Cm D} {r : List V → Hp → VK → Prop} (hc : CallR X (.builtin id) r) (hf : BuS X.K cl f r) (hg : Gl X x) (hm : X.mg x = none) (hv : bootBuiltins x = some (.builtin id)) (ha : SA X cl W (e0 :: es) aa) (hn : x ≠ "__name__" := by decide) (hdb : (x == ("__debug__" : Str)) = false := by decide)
    (he : starEach (e0 :: es) X.env = (false, eval e0 X.env) :: starEach es X.env := by rfl) (hpl : (backTo pos (starEach es X.env)).any (·.1) = false := by rfl) : SE X cl W (.Call (.Name x p) (e0 :: es) [] pos) (cCall f aa) :=
  PE.imp (pe_callB hc hg hm hv ha hn hdb he hpl) fun σ H Q h => tCB_of hf h
theorem s_ty {T : String} {f : List D → Cm D} {r : List V → Hp → VK → Prop} (hc : CallR X (.type T) r) (hf : BuS X.K cl f r) (hg : Gl X x) (hm : X.mg x = none) (hv : bootBuiltins x = some (.type T)) (ha : SA X cl W (e0 :: es) aa) (hn : x ≠ "__name__" := by decide) (hdb : (x == ("__debug__" : Str)) = false := by decide)
    (he : starEach (e0 :: es) X.env = (false, eval e0 X.env) :: starEach es X.env := by rfl) (hpl : (backTo pos (starEach es X.env)).any (·.1) = false := by rfl) : SE X cl W (.Call (.Name x p) (e0 :: es) [] pos) (cCall f aa) :=
  PE.imp (pe_callTy hc hg hm hv ha hn hdb he hpl) fun σ H Q h => tCB_of hf h
section
variable {K : PySem.W.Frag}
theorem RpL.one {bs : List Addr} {H : Hp} {d : D} {vs : List V} (h : RpL K bs H [d] vs) : ∃ v, vs = [v] ∧ Rp K bs H d v := by
  cases h with
  | cons h r => cases r; exact ⟨_, rfl, h⟩
theorem RpL.two {bs : List Addr} {H : Hp} {d d' : D} {vs : List V} (h : RpL K bs H [d, d'] vs) : ∃ v w, vs = [v, w] ∧ Rp K bs H d v ∧ Rp K bs H d' w := by
  cases h with
  | cons h r =>
    obtain ⟨w, rfl, h2⟩ := r.one
    exact ⟨_, _, rfl, h, h2⟩
theorem bu_len : BuS K cl bLen (fun xs H Q => (∃ p ys, xs = [.ref p] ∧ (SqL K H p ys ∨ SqT K H p ys) ∧ Q (.int ys.length) H) ∨ ∃ z, xs = [.str z] ∧ z.length ≤ sizeLine ∧ Q (.int z.length) H) := by
  intro W bs s H ds vs Q S r h
  match ds, r, h with
  | [], r, h => exact (show False from h).elim
  | _ :: _ :: _, r, h => exact (show False from h).elim
  | [x], r, h =>
    obtain ⟨v, rfl, r1⟩ := r.one
    cases e : itemsOf s x with
    | some xs =>
      obtain ⟨p, us, rfl, e2, e3⟩ := S.items e r1
      refine .inl ⟨p, us, rfl, e2, ?_⟩
      rw [← e3.length]
      exact Run.of_ok h (by unfold bLen; simp only [e]) bs H (Gr.refl _ _) S _ (.int _)
    | none =>
      cases x with
      | str z =>
        by_cases c : z.length ≤ big
        · exact .inr ⟨z, by rw [r1.str_inv], big_line c, Run.of_ok h (by unfold bLen; simp only [e]; rw [if_pos c]) bs H (Gr.refl _ _) S _ (.int _)⟩
        · exact (Run.of_no h (by unfold bLen; simp only [e]; rw [if_neg c])).elim
      | _ => exact (Run.of_no h (by unfold bLen; simp only [e])).elim
theorem bu_ii {f : List D → Cm D} {g : Int → Int → Int} (hf : ∀ i j, f [.int i, .int j] = ret (.int (g i j))) (hn : ∀ ds, (∀ i j, ¬ ds = [.int i, .int j]) → f ds = noC) : BuS K cl f (fun xs H Q => ∃ i j, xs = [.int i, .int j] ∧ Q (.int (g i j)) H) := by
  intro W bs s H ds vs Q S r h
  by_cases c : ∃ i j, ds = [.int i, .int j]
  · obtain ⟨i, j, rfl⟩ := c
    obtain ⟨v, w, rfl, r1, r2⟩ := r.two
    rw [hf] at h
    exact ⟨i, j, by rw [r1.int_inv, r2.int_inv], Run.now S h _ (.int _)⟩
  · rw [hn ds fun i j q => c ⟨i, j, q⟩] at h
    exact h.elim
theorem bu_max : BuS K cl bMax (fun xs H Q => ∃ i j, xs = [.int i, .int j] ∧ Q (.int (if j > i then j else i)) H) := bu_ii (fun _ _ => rfl) fun ds h => by
  unfold bMax
  split
  · exact absurd rfl (h _ _)
  · rfl
theorem bu_min : BuS K cl bMin (fun xs H Q => ∃ i j, xs = [.int i, .int j] ∧ Q (.int (if j < i then j else i)) H) := bu_ii (fun _ _ => rfl) fun ds h => by
  unfold bMin
  split
  · exact absurd rfl (h _ _)
  · rfl
theorem bu_abs : BuS K cl bAbs (fun xs H Q => ∃ i, xs = [.int i] ∧ Q (.int (if i < 0 then -i else i)) H) := by
  intro W bs s H ds vs Q S r h
  unfold bAbs at h
  split at h
  · obtain ⟨v, rfl, r1⟩ := r.one
    exact ⟨_, by rw [r1.int_inv], Run.now S h _ (.int _)⟩
  · exact h.elim
theorem bu_int : BuS K cl bInt (fun xs H Q => (∃ i, xs = [.int i] ∧ Q (.int i) H) ∨ ∃ k, xs = [.bl k] ∧ Q (.int (if k then 1 else 0)) H) := by
  intro W bs s H ds vs Q S r h
  unfold bInt at h
  split at h
  · obtain ⟨v, rfl, r1⟩ := r.one
    exact .inl ⟨_, by rw [r1.int_inv], Run.now S h _ (.int _)⟩
  · obtain ⟨v, rfl, r1⟩ := r.one
    exact .inr ⟨_, by rw [r1.bl_inv], Run.now S h _ (.int _)⟩
  · exact h.elim
theorem bu_list : BuS K cl bList (fun xs H Q => ∃ p ys, xs = [.ref p] ∧ (SqL K H p ys ∨ SqT K H p ys) ∧ ∀ l, H l = none → Q (.ref l) (upd H l (.lst ys))) := by
  intro W bs s H ds vs Q S r h
  match ds, r, h with
  | [], r, h => exact (show False from h).elim
  | _ :: _ :: _, r, h => exact (show False from h).elim
  | [x], r, h =>
    obtain ⟨v, rfl, r1⟩ := r.one
    cases e : itemsOf s x with
    | some xs =>
      obtain ⟨p, us, rfl, e2, e3⟩ := S.items e r1
      refine ⟨p, us, rfl, e2, fun l hl => Run.newL S hl e3 (W := W) ?_⟩
      unfold Run at h ⊢
      simp only [bList, e] at h
      exact h
    | none => exact (Run.of_no h (by unfold bList; simp only [e])).elim
theorem bu_tuple : BuS K cl bTuple (fun xs H Q => ∃ p ys, xs = [.ref p] ∧ ((SqL K H p ys ∧ ∀ l, H l = none → Q (.ref l) (upd H l (.tup ys))) ∨ (SqT K H p ys ∧ Q (.ref p) H))) := by
  intro W bs s H ds vs Q S r h
  match ds, r, h with
  | [], r, h => exact (show False from h).elim
  | _ :: _ :: _, r, h => exact (show False from h).elim
  | [x], r, h =>
    obtain ⟨v, rfl, r1⟩ := r.one
    cases e : itemsOf s x with
    | some xs =>
      have h2 : Run K cl W bs s H (ret (D.tup xs)) (fun d bs' _ H' => ∀ v, Rp K bs' H' d v → Q v H') := by
        unfold Run at h ⊢
        simp only [bTuple, e] at h
        exact h
      cases x with
      | tup ys =>
        cases e
        cases r1 with
        | @tup _ p us q1 q2 => exact ⟨p, us, rfl, .inr ⟨sqT_mono (fun a o e => (hid_some e).2) q1, Run.now S h2 _ (.tup q1 q2)⟩⟩
      | lst ys =>
        cases e
        cases r1 with
        | @lst _ p us q1 q2 => exact ⟨p, us, rfl, .inl ⟨(fzL_mono (fun a o e => (hid_some e).2) q1).sq, fun l hl => Run.newT S hl q2 h2⟩⟩
      | box j =>
        obtain ⟨p, us, e1, _, e2, e3⟩ := S.lst (show lAt s j = some xs from e) r1
        exact ⟨p, us, by rw [e1], .inl ⟨SqL.of e2, fun l hl => Run.newT S hl e3 h2⟩⟩
      | _ => cases e
    | none => exact (Run.of_no h (by unfold bTuple; simp only [e])).elim
/-- True or False in a row -/
theorem bls_ok {bs : List Addr} {H : Hp} : ∀ {ds : List D} {vs : List V}, RpL K bs H ds vs → ds.all isBl = true → vs = (ds.map blOf).map V.bl
  | [], _, .nil, _ => rfl
  | d :: ds, _, .cons h r, q => by
    rw [List.all_cons, Bool.and_eq_true] at q
    have ih := bls_ok r q.2
    cases d with
    | bl b => rw [ih, h.bl_inv]; rfl
    | _ => exact (Bool.noConfusion q.1)
theorem all_map : ∀ ds : List D, (ds.map blOf).all id = ds.all blOf
  | [] => rfl
  | d :: ds => by
    rw [List.map_cons, List.all_cons, List.all_cons, all_map ds]
    cases d <;> rfl
theorem bu_all : BuS K cl bAll (rAll K) := by
  intro W bs s H ds vs Q S r h
  unfold bAll at h
  split at h
  · rename_i j
    obtain ⟨v, rfl, r1⟩ := r.one
    cases e : lAt s j with
    | none => exact (Run.of_no h (by simp only [e])).elim
    | some xs =>
      by_cases c : xs.all isBl = true
      · have q : ∀ v, Rp K bs H (.bl (xs.all blOf)) v → Q v H := Run.of_ok h (by simp only [e]; rw [if_pos c]) bs H (Gr.refl _ _) S
        obtain ⟨p, us, e1, _, e2, e3⟩ := S.lst e r1
        refine ⟨p, xs.map blOf, by rw [e1], ?_, ?_⟩
        · rw [← bls_ok e3 c]; exact SqL.of e2
        · rw [all_map]; exact q _ (.bl _)
      · exact (Run.of_no h (by simp only [e]; rw [if_neg c])).elim
  · exact h.elim
end
theorem s_len (hg : Gl X "len") (hm : X.mg "len" = none) (ha : SA X cl W (e0 :: es) aa) (he : starEach (e0 :: es) X.env = (false, eval e0 X.env) :: starEach es X.env := by rfl) (hpl : (backTo pos (starEach es X.env)).any (·.1) = false := by rfl) : SE X cl W (.Call (.Name "len" p) (e0 :: es) [] pos) (cCall bLen aa) :=
  s_bu (call_len_seq.or call_len_str) bu_len hg hm PySem.boot_len ha (by decide) (by decide) he hpl
theorem s_abs (hg : Gl X "abs") (hm : X.mg "abs" = none) (ha : SA X cl W (e0 :: es) aa) (he : starEach (e0 :: es) X.env = (false, eval e0 X.env) :: starEach es X.env := by rfl) (hpl : (backTo pos (starEach es X.env)).any (·.1) = false := by rfl) : SE X cl W (.Call (.Name "abs" p) (e0 :: es) [] pos) (cCall bAbs aa) :=
  s_bu call_abs bu_abs hg hm (by decide +kernel) ha (by decide) (by decide) he hpl
theorem s_max (hc : X.calm = true) (hg : Gl X "max") (hm : X.mg "max" = none) (ha : SA X cl W (e0 :: es) aa) (he : starEach (e0 :: es) X.env = (false, eval e0 X.env) :: starEach es X.env := by rfl) (hpl : (backTo pos (starEach es X.env)).any (·.1) = false := by rfl) : SE X cl W (.Call (.Name "max" p) (e0 :: es) [] pos) (cCall bMax aa) :=
  s_bu (call_max2 hc) bu_max hg hm (by decide +kernel) ha (by decide) (by decide) he hpl
theorem s_min (hc : X.calm = true) (hg : Gl X "min") (hm : X.mg "min" = none) (ha : SA X cl W (e0 :: es) aa) (he : starEach (e0 :: es) X.env = (false, eval e0 X.env) :: starEach es X.env := by rfl) (hpl : (backTo pos (starEach es X.env)).any (·.1) = false := by rfl) : SE X cl W (.Call (.Name "min" p) (e0 :: es) [] pos) (cCall bMin aa) :=
  s_bu (call_min2 hc) bu_min hg hm (by decide +kernel) ha (by decide) (by decide) he hpl
theorem s_int1 (hg : Gl X "int") (hm : X.mg "int" = none) (ha : SA X cl W (e0 :: es) aa) (he : starEach (e0 :: es) X.env = (false, eval e0 X.env) :: starEach es X.env := by rfl) (hpl : (backTo pos (starEach es X.env)).any (·.1) = false := by rfl) : SE X cl W (.Call (.Name "int" p) (e0 :: es) [] pos) (cCall bInt aa) :=
  s_ty call_int1 bu_int hg hm (by decide +kernel) ha (by decide) (by decide) he hpl
theorem s_list1 (hg : Gl X "list") (hm : X.mg "list" = none) (ha : SA X cl W (e0 :: es) aa) (he : starEach (e0 :: es) X.env = (false, eval e0 X.env) :: starEach es X.env := by rfl) (hpl : (backTo pos (starEach es X.env)).any (·.1) = false := by rfl) : SE X cl W (.Call (.Name "list" p) (e0 :: es) [] pos) (cCall bList aa) :=
  s_ty call_list_of bu_list hg hm (by decide +kernel) ha (by decide) (by decide) he hpl
theorem s_tuple1 (hg : Gl X "tuple") (hm : X.mg "tuple" = none) (ha : SA X cl W (e0 :: es) aa) (he : starEach (e0 :: es) X.env = (false, eval e0 X.env) :: starEach es X.env := by rfl) (hpl : (backTo pos (starEach es X.env)).any (·.1) = false := by rfl) : SE X cl W (.Call (.Name "tuple" p) (e0 :: es) [] pos) (cCall bTuple aa) :=
  s_ty call_tuple_of bu_tuple hg hm (by decide +kernel) ha (by decide) (by decide) he hpl
theorem s_all (hc : X.calm = true) (hg : Gl X "all") (hm : X.mg "all" = none) (ha : SA X cl W (e0 :: es) aa) (he : starEach (e0 :: es) X.env = (false, eval e0 X.env) :: starEach es X.env := by rfl) (hpl : (backTo pos (starEach es X.env)).any (·.1) = false := by rfl) : SE X cl W (.Call (.Name "all" p) (e0 :: es) [] pos) (cCall bAll aa) :=
  s_bu (cr_all hc) bu_all hg hm (by decide +kernel) ha (by decide) (by decide) he hpl
/-! of a list that nobody holds on to -/
section
variable {ca : CA}
theorem tL1_of {K : PySem.W.Frag} {r : List V → Hp → VK → Prop} {f : List D → Cm D} {σ : L2.St} {H : Hp} {Q : VK}
    (hf : ∀ (W : Value → Option Addr → Hp → Prop) bs s H p ds vs, StR K cl bs s H → H p = none → RpL K bs H ds vs → Run K cl W bs s H (f ds) (fun d bs' _ H' => ∀ v, Rp K bs' H' d v → Q v H') → r [.ref p] (upd H p (.lst vs)) Q)
    (h : TEof K cl W (fun e => bnd (ca e) f) σ H Q) : tCB r (tCons (TLof K cl W ca) tNil) σ H Q := by
  obtain ⟨bs, s, e, S, N, h⟩ := h
  exact ⟨bs, s, e, S, N, (Run.bnd h).imp fun xs b1 t1 H1 g1 S1 h1 p vs hp r1 => hf _ b1 t1 H1 p xs vs S1 hp r1 h1⟩
theorem s_tp (hg : Gl X "tuple") (hm : X.mg "tuple" = none) (ha : SL X cl W a ca) (h1 : starEach [a] X.env = (false, eval a X.env) :: starEach [] X.env := by rfl) : SE X cl W (.Call (.Name "tuple" p) [a] [] pos) (cTp ca) :=
  PE.imp (pe_callTy call_tuple_of hg hm (by decide +kernel) (pa_cons ha pa_nil h1) (by decide) (by decide) h1 rfl) fun σ H Q h => tL1_of (fun W bs s H p ds vs S hp r h => by
    refine ⟨p, vs, rfl, .inl ⟨SqL.of upd_same, fun l hl => ?_⟩⟩
    exact Run.newT (S.new hp) hl (r.mono (gr_new hp)) (h.up (gr_new hp))) h
theorem s_ln (hg : Gl X "len") (hm : X.mg "len" = none) (ha : SL X cl W a ca) (h1 : starEach [a] X.env = (false, eval a X.env) :: starEach [] X.env := by rfl) : SE X cl W (.Call (.Name "len" p) [a] [] pos) (cLn ca) :=
  PE.imp (pe_callB call_len_seq hg hm PySem.boot_len (pa_cons ha pa_nil h1) (by decide) (by decide) h1 rfl) fun σ H Q h => tL1_of (fun W bs s H p ds vs S hp r h => by
    refine ⟨p, vs, rfl, .inl (SqL.of upd_same), ?_⟩
    rw [← r.length]
    exact Run.of_ret h bs _ (gr_new hp) (S.new hp) _ (.int _)) h
theorem s_allA (hc : X.calm = true) (hg : Gl X "all") (hm : X.mg "all" = none) (ha : SL X cl W a ca) (h1 : starEach [a] X.env = (false, eval a X.env) :: starEach [] X.env := by rfl) : SE X cl W (.Call (.Name "all" p) [a] [] pos) (cAllA ca) :=
  PE.imp (pe_callB (cr_all hc) hg hm (by decide +kernel) (pa_cons ha pa_nil h1) (by decide) (by decide) h1 rfl) fun σ H Q h => tL1_of (fun W bs s H p ds vs S hp r h => by
    obtain ⟨c, h⟩ := Run.ite h
    refine ⟨p, ds.map blOf, rfl, ?_, ?_⟩
    · rw [← bls_ok r c]; exact SqL.of upd_same
    · rw [all_map]
      exact Run.of_ret h bs _ (gr_new hp) (S.new hp) _ (.bl _)) h
theorem ints_ok {K : PySem.W.Frag} {bs : List Addr} {H : Hp} : ∀ {ds : List D} {vs : List V} {ns : List Int}, RpL K bs H ds vs → intsD ds = some ns → vs = ns.map V.int
  | [], _, _, .nil, h => by cases h; rfl
  | d :: ds, _, ns, .cons h r, q => by
    cases d with
    | int i =>
      unfold intsD at q
      cases e : intsD ds with
      | none => rw [e] at q; cases q
      | some ms =>
        rw [e] at q
        cases q
        rw [ints_ok r e, h.int_inv]
        rfl
    | _ => cases q
theorem maxD_ok : ∀ {ns : List Int}, 0 < ns.length → maxD ns ∈ ns ∧ ∀ y ∈ ns, y ≤ maxD ns
  | [], h => by simp at h
  | [x], _ => by simp [maxD]
  | x :: y :: r, _ => by
    obtain ⟨h1, h2⟩ := maxD_ok (ns := y :: r) (by simp)
    unfold maxD
    refine ⟨?_, fun z hz => ?_⟩
    · by_cases c : x ≤ maxD (y :: r)
      · rw [Int.max_eq_right c]; exact List.mem_cons_of_mem _ h1
      · rw [Int.max_eq_left (by omega)]; exact List.mem_cons_self
    · rcases List.mem_cons.mp hz with rfl | hz
      · omega
      · have := h2 z hz; omega
theorem s_sumA (hc : X.calm = true) (hg : Gl X "sum") (hm : X.mg "sum" = none) (ha : SL X cl W a ca) (h1 : starEach [a] X.env = (false, eval a X.env) :: starEach [] X.env := by rfl) : SE X cl W (.Call (.Name "sum" p) [a] [] pos) (cSumA ca) :=
  PE.imp (pe_callB (cr_sum hc) hg hm (by decide +kernel) (pa_cons ha pa_nil h1) (by decide) (by decide) h1 rfl) fun σ H Q h => tL1_of (fun W bs s H p ds vs S hp r h => by
    unfold sumA at h
    cases e : intsD ds with
    | none => rw [e] at h; exact (show False from h).elim
    | some ns =>
      rw [e] at h
      refine ⟨p, ns, rfl, ?_, ?_⟩
      · rw [← ints_ok r e]; exact SqL.of upd_same
      · exact Run.of_ret h bs _ (gr_new hp) (S.new hp) _ (.int _)) h
theorem s_maxA (hc : X.calm = true) (hg : Gl X "max") (hm : X.mg "max" = none) (ha : SL X cl W a ca) (h1 : starEach [a] X.env = (false, eval a X.env) :: starEach [] X.env := by rfl) : SE X cl W (.Call (.Name "max" p) [a] [] pos) (cMaxA ca) :=
  PE.imp (pe_callB (cr_max hc) hg hm (by decide +kernel) (pa_cons ha pa_nil h1) (by decide) (by decide) h1 rfl) fun σ H Q h => tL1_of (fun W bs s H p ds vs S hp r h => by
    unfold maxA at h
    cases e : intsD ds with
    | none => rw [e] at h; exact (show False from h).elim
    | some ns =>
      rw [e] at h
      obtain ⟨c, h⟩ := Run.ite h
      refine ⟨p, ns, rfl, ?_, c, fun m m1 m2 => ?_⟩
      · rw [← ints_ok r e]; exact SqL.of upd_same
      · obtain ⟨n1, n2⟩ := maxD_ok c
        have : m = maxD ns := Int.le_antisymm (n2 m m1) (m2 _ n1)
        rw [this]
        exact Run.of_ret h bs _ (gr_new hp) (S.new hp) _ (.int _)) h
end
/-! isinstance(x, T) -/
theorem tyD_ok {K : PySem.W.Frag} {bs : List Addr} {s : Sto} {H : Hp} {d : D} {v : V} {t : String} (S : StR K cl bs s H) (r : Rp K bs H d v) (h : tyD s d = some t) : TyX K H v (.type t) := by
  cases d with
  | non => cases h; cases r; exact .base .non
  | bl b => cases h; cases r; exact .base (.bl b)
  | int b => cases h; cases r; exact .base (.int b)
  | str b => cases h; cases r; exact .base (.str b)
  | tup ds =>
    cases h
    cases r with
    | tup h1 _ =>
      rcases h1 with (h1 | ⟨o, h1⟩) | ⟨o, _, _, h1, h2, _⟩
      · exact .base (.tup (hid_some h1).2)
      · exact .fTuple (hid_some h1).2
      · exact .kTuple h1 h2
  | lst ds => cases h
  | box j =>
    cases r with
    | @box _ p hp =>
      obtain ⟨m, o, hm, ho, mr⟩ := S.box hp
      unfold tyD at h
      simp only [hm] at h
      cases m with
      | lst ds =>
        cases h
        cases o with
        | lst vs => exact .base (.lst ho)
        | _ => exact (show False from mr).elim
      | dk ds =>
        cases h
        cases o with
        | dK vs => exact .base (.dK ho)
        | _ => exact (show False from mr).elim
      | dt ds =>
        cases h
        cases o with
        | dT vs => exact .base (.dT ho)
        | _ => exact (show False from mr).elim
      | fd ds => cases h
      | ins c fs => cases h
theorem s_isi {T : Str} {tn : String} {p2 : Pos} (hg : Gl X "isinstance") (hm : X.mg "isinstance" = none) (gT : Gl X T) (mT : X.mg T = none) (bT : bootBuiltins T = some (.type tn)) (ha : SE X cl W a ca)
    (h1 : starEach [a, .Name T p2] X.env = (false, eval a X.env) :: starEach [.Name T p2] X.env := by rfl) (hn : T ≠ "__name__" := by decide) (hd : (T == ("__debug__" : Str)) = false := by decide) :
    SE X cl W (.Call (.Name "isinstance" p) [a, .Name T p2] [] pos) (cUn (dIsi tn) ca) := by
  refine PE.imp (pe_callB call_isi hg hm (by decide +kernel) (pa_cons ha (pa_cons (pe_bltn (v := .ty tn) gT mT bT rfl hn hd) pa_nil) h1) (by decide) (by decide) h1 rfl) fun σ H Q ⟨bs, s, e, S, N, h⟩ => ?_
  refine ⟨bs, s, e, S, N, (Run.bnd h).imp fun d b1 t1 H1 g1 S1 h1 v r1 => ?_⟩
  cases e1 : tyD t1 d with
  | none => exact (Run.of_no h1 (by unfold dIsi; simp only [e1])).elim
  | some t =>
    cases e2 : L2.kitB t tn with
    | none => exact (Run.of_no h1 (by unfold dIsi; simp only [e1, e2])).elim
    | some k => exact ⟨v, .ty tn, .type t, .type tn, k, rfl, .ty tn, tyD_ok S1 r1 e1, kit_ty e2, Run.of_ok h1 (by unfold dIsi; simp only [e1, e2]) b1 H1 (Gr.refl _ _) S1 _ (.bl _)⟩

/-! ### a def's promise, calls -/
/-- F: what of the caller's wish for an exception the def is told (all of it: fun E => E; a def that raises nothing: fun _ _ _ _ => False) -/
def spOf (K : PySem.W.Frag) (cl : Str → Addr) (F : XK → XK) (n : Nat) (g : List D → Cm D) : Sp := fun vs H Q E => ∃ bs s ds, ds.length = n ∧ StR K cl bs s H ∧ RpL K bs H ds vs ∧
  Run K cl (F E) bs s H (g ds) (fun d bs' _ H' => ∀ v, Rp K bs' H' d v → Q v H')
theorem spOf_len {K : PySem.W.Frag} {F : XK → XK} {n : Nat} {g : List D → Cm D} {vs : List V} {H : Hp} {Q : VK} {E : XK} (h : spOf K cl F n g vs H Q E) : vs.length = n := by
  obtain ⟨bs, s, ds, h1, _, h2, _⟩ := h
  rw [← h2.length, h1]
/-- the world a law's defs live in -/
structure Wd where
  P : Program
  w : World
  K : PySem.W.Frag
  mg : Str → Option Value
  base : Heap
  CX : CXT
  cl : Str → Addr
  F : XK → XK
/-- the def x of the module keeps the promise of g, at level k -/
structure Df (Y : Wd) (x : Str) (k n : Nat) (g : List D → Cm D) : Prop where
  ar : ∀ ds, ds.length ≠ n → ∀ s, g ds s = .no
  ex : ∃ f fd ps, Y.mg x = some (.ref f) ∧ PySem.W.keepIn Y.K (.ref f) = true ∧ Binds Y.K fd ps [] ∧ ps.length = n ∧ FnOk Y.P Y.w Y.K Y.mg Y.base Y.CX k f fd ps (spOf Y.K Y.cl Y.F n g)
/-- the context is one of this world, and what a callee raises may leave here -/
structure Lets (Y : Wd) (X : Cx) (W : WX) : Prop where
  p : X.prog = Y.P
  w : X.w = Y.w
  K : X.K = Y.K
  mg : X.mg = Y.mg
  base : X.base = Y.base
  pa : ∀ σ, PassesAt Y.CX X σ (fun u d H => W u d σ H)
  im : ∀ σ u d H, W u d σ H → Y.F (fun u d H => W u d σ H) u d H
theorem Run.wish {K : PySem.W.Frag} {cl : Str → Addr} {W W' : Value → Option Addr → Hp → Prop} {α : Type} {bs : List Addr} {s : Sto} {H : Hp} {m : Cm α} {P : α → List Addr → Sto → Hp → Prop} (h : Run K cl W bs s H m P) (i : ∀ u d H, W u d H → W' u d H) : Run K cl W' bs s H m P := by
  unfold Run at *
  cases e : m s with
  | ok a t => rw [e] at h; exact h
  | ex c fs t => rw [e] at h; exact fun b1 H1 u dx g1 S1 x1 => i _ _ _ (h b1 H1 u dx g1 S1 x1)
  | no => rw [e] at h; exact h
theorem s_call {Y : Wd} {k n : Nat} {g : List D → Cm D} (d : Df Y x k n g) (tk : Lets Y X W) (hr : Room k X.A) (hg : Gl X x) (ha : SA X Y.cl W (e0 :: es) aa) (hdb : (x == ("__debug__" : Str)) = false := by decide)
    (he : starEach (e0 :: es) X.env = (false, eval e0 X.env) :: starEach es X.env := by rfl) (hpl : (backTo pos (starEach es X.env)).any (·.1) = false := by rfl) : SE X Y.cl W (.Call (.Name x p) (e0 :: es) [] pos) (cCall g aa) := by
  obtain ⟨YP, Yw, YK, Ymg, Yb, YCX, Ycl, YF⟩ := Y
  obtain ⟨e1, e2, e3, e4, e5, pa, im⟩ := tk
  obtain ⟨Xp, Xw, XK, Xmg, Xb, XA, XN, Xs0, XH0, Xenv, Xo, Xst, Xex, Xfn, Xc, Xpn, Xxe⟩ := X
  simp only at e1 e2 e3 e4 e5
  subst e1 e2 e3 e4 e5
  obtain ⟨f, fd, ps, hm, hk, hb, hl, F⟩ := d.ex
  refine PE.imp (pe_callSD (E := fun σ u d H => W u d σ H) F hr hg hm hk hb .nil pa ha hdb he hpl) fun σ H Q ⟨bs, s, e, S, N, h⟩ => ?_
  refine ⟨bs, s, e, S, N, (Run.bnd h).imp fun ds b1 t1 H1 g1 S1 h1 vs r1 => ?_⟩
  show spOf _ _ _ n g (vs ++ []) H1 Q _
  rw [List.append_nil]
  by_cases hlen : ds.length = n
  · exact ⟨b1, t1, ds, hlen, S1, r1, h1.wish (im σ)⟩
  · exact (Run.of_no h1 (d.ar ds hlen t1)).elim
theorem s_call0 {Y : Wd} {k : Nat} {g : List D → Cm D} (d : Df Y x k 0 g) (tk : Lets Y X W) (hr : Room k X.A) (hg : Gl X x) (hdb : (x == ("__debug__" : Str)) = false := by decide) : SE X Y.cl W (.Call (.Name x p) [] [] pos) (cCall g aNil) := by
  obtain ⟨YP, Yw, YK, Ymg, Yb, YCX, Ycl, YF⟩ := Y
  obtain ⟨e1, e2, e3, e4, e5, pa, im⟩ := tk
  obtain ⟨Xp, Xw, XK, Xmg, Xb, XA, XN, Xs0, XH0, Xenv, Xo, Xst, Xex, Xfn, Xc, Xpn, Xxe⟩ := X
  simp only at e1 e2 e3 e4 e5
  subst e1 e2 e3 e4 e5
  obtain ⟨f, fd, ps, hm, hk, hb, hl, F⟩ := d.ex
  refine ⟨fun pins s σ H Q I ⟨bs, t, e, S, N, h⟩ => ?_⟩
  refine wpAny_Call_Name_kw (ld_glob I hg hm ?_ hdb)
  refine PySem.W.callWith_K0 I.kIn hk (run_fnSD (E := fun σ u d H => W u d σ H) (us := []) (vs := []) F hr hb .nil (pa σ) I .nil ?_)
  have h1 := Run.bnd h
  exact ⟨bs, t, [], rfl, S, .nil, (Run.now S h1).wish (im σ)⟩
end
end G

set_option Elab.async false
set_option linter.all false
set_option maxRecDepth 100000
set_option maxHeartbeats 4000000
/-! G, soundness: loops, comprehensions, statements, defs. -/
namespace G
open PySem L2 PySem.Spec PyProof.Rows

abbrev W0 : WX := fun _ _ _ _ => False
abbrev F0 : Value → Option Addr → Hp → Prop := fun _ _ _ => False

/-! ### what is walked -/
def ItOf (K : PySem.W.Frag) (cl : Str → Addr) (w : Src) (b0 : List Addr) (H0 : Hp) (J : It) : Prop := ∀ bs s H all, Gr b0 H0 bs H → StR K cl bs s H → w.items s = some all → ∀ i,
  (i < all.length → J.go i H ∧ ∀ x H', J.yld i H x H' → Gr bs H bs H' ∧ StR K cl bs s H' ∧ ∃ d, all[i]? = some d ∧ Rp K bs H' d x) ∧ (i = all.length → J.stop i H)
def ItOf' (K : PySem.W.Frag) (cl : Str → Addr) (d : D) (b0 : List Addr) (H0 : Hp) (J : It) : Prop := ∀ bs s H all, Gr b0 H0 bs H → StR K cl bs s H → itemsOf s d = some all → ∀ i,
  (i < all.length → J.go i H ∧ ∀ x H', J.yld i H x H' → Gr bs H bs H' ∧ StR K cl bs s H' ∧ ∃ d, all[i]? = some d ∧ Rp K bs H' d x) ∧ (i = all.length → J.stop i H)
def TIof (K : PySem.W.Frag) (cl : Str → Addr) (W : WX) (c : CS') : TI := fun σ H R => ∃ bs s e, StR K cl bs s H ∧ EnR K bs H e σ ∧ Run K cl (fun u dx H' => W u dx σ H') bs s H (c e) (fun w bs' _ H' => ∀ J, ItOf K cl w bs' H' J → R J H')
def SI (X : Cx) (cl : Str → Addr) (W : WX) (tg it : Expr) (c : CS') : Prop := PI X tg it (TIof X.K cl W c)
theorem PI.imp {X : Cx} {tg e : Expr} {t t' : TI} (h : PI X tg e t) (i : ∀ σ H Q, t' σ H Q → t σ H Q) : PI X tg e t' := ⟨fun pins s σ H Q I q => h.run pins s σ H Q I (i σ H Q q)⟩
section
variable {X : Cx} {cl : Str → Addr} {W : WX} {tg l a b : Expr} {ca cb : CE} {p pos : Pos}
theorem itOf_l {K : PySem.W.Frag} {d : D} {a : Addr} {b0 : List Addr} {H0 : Hp} (h : ∀ bs s H all, Gr b0 H0 bs H → StR K cl bs s H → itemsOf s d = some all → ∃ vs, SqL K H a vs ∧ RpL K bs H all vs)
    (inj : True) : ItOf' K cl d b0 H0 (Itl K a) := by
  intro bs s H all g S e i
  obtain ⟨vs, h1, h2⟩ := h bs s H all g S e
  refine ⟨fun hi => ?_, fun hi => ⟨vs, h1, by rw [← h2.length]; omega⟩⟩
  obtain ⟨v, e1, _⟩ := h2.get (List.getElem?_eq_getElem hi)
  refine ⟨⟨vs, v, h1, e1⟩, fun x H' y => ?_⟩
  obtain ⟨rfl, y⟩ := y
  obtain ⟨d', e2, r2⟩ := h2.get' (y vs h1)
  exact ⟨Gr.refl _ _, S, d', e2, r2⟩
theorem itOf_t {K : PySem.W.Frag} {d : D} {a : Addr} {b0 : List Addr} {H0 : Hp} (h : ∀ bs s H all, Gr b0 H0 bs H → StR K cl bs s H → itemsOf s d = some all → ∃ vs, SqT K H a vs ∧ RpL K bs H all vs) : ItOf' K cl d b0 H0 (Itt K a) := by
  intro bs s H all g S e i
  obtain ⟨vs, h1, h2⟩ := h bs s H all g S e
  refine ⟨fun hi => ?_, fun hi => ⟨vs, h1, by rw [← h2.length]; omega⟩⟩
  obtain ⟨v, e1, _⟩ := h2.get (List.getElem?_eq_getElem hi)
  refine ⟨⟨vs, v, h1, e1⟩, fun x H' y => ?_⟩
  obtain ⟨rfl, y⟩ := y
  obtain ⟨d', e2, r2⟩ := h2.get' (y vs h1)
  exact ⟨Gr.refl _ _, S, d', e2, r2⟩
/-- the lists that stand at v, from here on -/
theorem seqs_l {K : PySem.W.Frag} {d : D} {v : V} {b0 : List Addr} {H0 : Hp} (r : Rp K b0 H0 d v) {a : Addr} (e : v = .ref a) (nt : ∀ ds, d ≠ .tup ds) :
    ∀ bs s H all, Gr b0 H0 bs H → StR K cl bs s H → itemsOf s d = some all → ∃ vs, SqL K H a vs ∧ RpL K bs H all vs := by
  intro bs s H all g S q
  subst e
  have r' := r.mono g
  cases d with
  | lst xs =>
    cases q
    cases r' with
    | lst h1 h2 => exact ⟨_, (fzL_mono (fun a o e => (hid_some e).2) h1).sq, h2⟩
  | box j =>
    obtain ⟨p, vs, e1, _, e2, e3⟩ := S.lst (show lAt s j = some all from q) r'
    cases e1
    exact ⟨vs, SqL.of e2, e3⟩
  | tup xs => exact absurd rfl (nt xs)
  | _ => cases q
theorem seqs_t {K : PySem.W.Frag} {ds : List D} {v : V} {b0 : List Addr} {H0 : Hp} (r : Rp K b0 H0 (.tup ds) v) {a : Addr} (e : v = .ref a) :
    ∀ bs s H all, Gr b0 H0 bs H → StR K cl bs s H → itemsOf s (.tup ds) = some all → ∃ vs, SqT K H a vs ∧ RpL K bs H all vs := by
  intro bs s H all g S q
  subst e
  cases r.mono g with
  | tup h1 h2 => cases q; exact ⟨_, sqT_mono (fun a o e => (hid_some e).2) h1, h2⟩
/-- a list, a tuple or a text, walked -/
def iSq3 (K : PySem.W.Frag) (tl : TE) : TI := fun σ H R => tl σ H fun x H1 => (∃ a, x = .ref a ∧ (((∃ xs, SqL K H1 a xs) ∧ R (Itl K a) H1) ∨ ((∃ xs, SqT K H1 a xs) ∧ R (Itt K a) H1))) ∨ ∃ z, x = .str z ∧ R (Its z) H1
theorem pi_seq3 {tl : TE} (hl : PE X l tl) : PI X tg l (iSq3 X.K tl) := by
  refine ⟨fun pins s σ H R I h => ?_⟩
  refine thn (hl.run pins s σ H _ I h) fun v s1 ⟨x, H1, I1, r1, q1⟩ => ?_
  rcases q1 with ⟨a, ex, ⟨⟨xs, hq⟩, q⟩ | ⟨⟨xs, hq⟩, q⟩⟩ | ⟨z, ex, q⟩
  · subst ex
    cases r1
    obtain ⟨its, rv, pl, hz⟩ := I1.list hq
    exact wpAny_pyIter_list pl.isList (pi_one (tk := s1.toks) I1 _ (turn_list a _) ⟨_, Heap.get?_push_size _ rfl, rfl, rfl⟩ q)
  · subst ex
    cases r1
    obtain ⟨its, rv, pl, hz⟩ := I1.tuple hq
    exact wpAny_pyIter_tuple (show s1.heap.IsTuple a its.toArray from pl) (pi_one (tk := s1.toks) I1 _ (turn_tuple a _) ⟨_, Heap.get?_push_size _ rfl, rfl, rfl⟩ q)
  · subst ex
    obtain ⟨u, hu⟩ := r1
    subst hu
    cases wide : z.cps.all (· < 128)
    · exact wpAny_pyIter_wide wide (pi_one (tk := s1.toks) I1 _ (turn_str _ z u "str_iterator" (.inr rfl)) ⟨_, Heap.get?_push_size _ rfl, rfl, rfl⟩ q)
    · exact wpAny_pyIter_ascii wide (pi_one (tk := s1.toks) I1 _ (turn_str _ z u "str_ascii_iterator" (.inl rfl)) ⟨_, Heap.get?_push_size _ rfl, rfl, rfl⟩ q)
theorem itOf_s {K : PySem.W.Frag} {z : Str} {b0 : List Addr} {H0 : Hp} : ItOf K cl (.seq (.str z)) b0 H0 (Its z) := by
  intro bs s H all g S e i
  have e : (if z.length ≤ big then some (chars z) else none) = some all := e
  by_cases c : z.length ≤ big
  · rw [if_pos c] at e
    cases e
    have hl : (chars z).length = z.cps.size := by simp [chars]
    rw [hl]
    refine ⟨fun hi => ⟨hi, fun x H' y => ?_⟩, fun hi => Nat.le_of_eq hi.symm⟩
    obtain ⟨rfl, k, e1, rfl⟩ := y
    refine ⟨Gr.refl _ _, S, .str ⟨#[k]⟩, ?_, .str _⟩
    unfold chars
    rw [List.getElem?_map, Array.getElem?_toList, e1]
    rfl
  · rw [if_neg c] at e; cases e
theorem row_seq {s : Sto} {d : D} (h : ∀ z, d ≠ .str z) : rowOf s d = itemsOf s d := by
  cases d <;> first | rfl | exact absurd rfl (h _)
theorem i_seq (hl : SE X cl W l ca) : SI X cl W tg l (iSeq ca) := PI.imp (pi_seq3 hl) fun σ H R ⟨bs, s, e, S, N, h⟩ => by
  refine ⟨bs, s, e, S, N, (Run.bnd h).imp fun d b1 t1 H1 g1 S1 h1 v r1 => ?_⟩
  cases q : rowOf t1 d with
  | none => exact (Run.of_no h1 (by simp only [q])).elim
  | some all =>
    have k := Run.of_ok h1 (a := .seq d) (t := t1) (by simp only [q]) b1 H1 (Gr.refl _ _) S1
    by_cases ns : ∃ z, d = .str z
    · obtain ⟨z, rfl⟩ := ns
      exact .inr ⟨z, r1.str_inv, k _ itOf_s⟩
    · have ne : ∀ z, d ≠ .str z := fun z e => ns ⟨z, e⟩
      have up : ∀ {b : List Addr} {H : Hp} {J : It}, ItOf' X.K cl d b H J → ItOf X.K cl (.seq d) b H J := fun h bs s H all g S e i => h bs s H all g S (by rw [← row_seq ne]; exact e) i
      rw [row_seq ne] at q
      obtain ⟨a, vs, e1, e2, e3⟩ := S1.items q r1
      refine .inl ⟨a, e1, ?_⟩
      by_cases nt : ∃ ds, d = .tup ds
      · obtain ⟨ds, rfl⟩ := nt
        have f := seqs_t (cl := cl) r1 e1
        obtain ⟨us, h1', _⟩ := f b1 t1 H1 all (Gr.refl _ _) S1 q
        exact .inr ⟨⟨us, h1'⟩, k _ (up (itOf_t f))⟩
      · have f := seqs_l (cl := cl) r1 e1 fun ds e => nt ⟨ds, e⟩
        obtain ⟨us, h1', _⟩ := f b1 t1 H1 all (Gr.refl _ _) S1 q
        exact .inl ⟨⟨us, h1'⟩, k _ (up (itOf_l f trivial))⟩
theorem rng_len (lo : Int) (n : Nat) : (rngD lo n).length = n := by simp [rngD]
theorem rng_get {lo : Int} {n i : Nat} (h : i < n) : (rngD lo n)[i]? = some (.int (lo + i)) := by simp [rngD, h]
theorem itOf_r {K : PySem.W.Frag} {lo : Int} {n : Nat} {b0 : List Addr} {H0 : Hp} : ItOf K cl (.rng lo n) b0 H0 (Itr lo n) := by
  intro bs s H all g S e i
  cases e
  rw [rng_len]
  refine ⟨fun hi => ⟨hi, fun x H' y => ?_⟩, fun hi => Nat.le_of_eq hi.symm⟩
  obtain ⟨rfl, rfl⟩ := y
  exact ⟨Gr.refl _ _, S, _, rng_get hi, .int _⟩
theorem i_rng (hg : Gl X "range") (hm : X.mg "range" = none) (ha : SE X cl W a ca) (hs : starEach [a] X.env = [(false, eval a X.env)] := by rfl) (hs2 : starEach [a] X.env = (false, eval a X.env) :: starEach [] X.env := by rfl) : SI X cl W tg (.Call (.Name "range" p) [a] [] pos) (iRng ca) :=
  PI.imp (pi_range1 hg hm (pa_cons ha pa_nil hs2) hs) fun σ H R ⟨bs, s, e, S, N, h⟩ => by
    refine ⟨bs, s, e, S, N, (Run.bnd h).imp fun d b1 t1 H1 g1 S1 h1 v r1 => ?_⟩
    cases d with
    | int j =>
      obtain ⟨c, h1⟩ := Run.ite h1
      exact ⟨j, by rw [r1.int_inv], c.1, c.2, Run.now S1 h1 _ itOf_r⟩
    | _ => exact (show False from h1).elim
theorem i_rng2 (hg : Gl X "range") (hm : X.mg "range" = none) (ha : SE X cl W a ca) (hb : SE X cl W b cb) (hs : starEach [a, b] X.env = [(false, eval a X.env), (false, eval b X.env)] := by rfl) (hs2 : starEach [b] X.env = [(false, eval b X.env)] := by rfl)
    (hs3 : starEach [a, b] X.env = (false, eval a X.env) :: starEach [b] X.env := by rfl) (hs4 : starEach [b] X.env = (false, eval b X.env) :: starEach [] X.env := by rfl) : SI X cl W tg (.Call (.Name "range" p) [a, b] [] pos) (iRng2 ca cb) :=
  PI.imp (pi_range2 hg hm (pa_cons ha (pa_cons hb pa_nil hs4) hs3) hs hs2) fun σ H R ⟨bs, s, e, S, N, h⟩ => by
    refine ⟨bs, s, e, S, N, (Run.bnd h).imp fun d b1 t1 H1 g1 S1 h1 v r1 => ⟨b1, t1, e, S1, N.mono g1, (Run.bnd h1).imp fun d2 b2 t2 H2 g2 S2 h2 w r2 => ?_⟩⟩
    cases d with
    | int i =>
      cases d2 with
      | int j =>
        obtain ⟨c, h2⟩ := Run.ite h2
        exact ⟨i, j, by rw [r1.int_inv, r2.int_inv], c, Run.now S2 h2 _ itOf_r⟩
      | _ => exact (show False from h2).elim
    | _ => exact (show False from h2).elim

/-! ### targets -/
def TGof (K : PySem.W.Frag) (cl : Str → Addr) (t : Tg) : TG := fun v σ H Q => ∃ bs s e d e', StR K cl bs s H ∧ EnR K bs H e σ ∧ Rp K bs H d v ∧ bindT t d e = some e' ∧ ∀ σ', EnR K bs H e' σ' → Q σ' H
def SG (X : Cx) (cl : Str → Addr) (e : Expr) (t : Tg) : Prop := PG X e (TGof X.K cl t)
theorem PG.imp {X : Cx} {e : Expr} {t t' : TG} (h : PG X e t) (i : ∀ v σ H Q, t' v σ H Q → t v σ H Q) : PG X e t' := ⟨fun pins s σ H v u Q I r q => h.run pins s σ H v u Q I r (i v σ H Q q)⟩
theorem g_name {x : Str} (i : Nat) (hN : X.N.Nodup) (hi : X.N[i]? = some x := by rfl) (hx : Loc X.env.scope x := by first | exact Or.inl rfl | exact Or.inr rfl) (hf : X.fn x = true ∨ X.env.scope.names.lookup x = some .local := by first | exact .inl rfl | exact .inr rfl) : SG X cl (.Name x pos) (.v i) :=
  PG.imp (pg_name hN hi hx hf) fun v σ H Q ⟨bs, s, e, d, e', S, N, r, h1, h2⟩ => by
    cases h1
    exact h2 _ (N.set i r)
def TGsOf (K : PySem.W.Frag) (is : List Nat) : TGs := fun vs σ H Q => ∃ bs e ds e', EnR K bs H e σ ∧ RpL K bs H ds vs ∧ stAll e is ds = some e' ∧ ∀ σ', EnR K bs H e' σ' → Q σ' H
theorem PGs.imp {X : Cx} {e : List Expr} {t t' : TGs} (h : PGs X e t) (i : ∀ v σ H Q, t' v σ H Q → t v σ H Q) : PGs X e t' := ⟨fun pins s σ H v u Q I r q => h.run pins s σ H v u Q I r (i v σ H Q q)⟩
theorem gs_nil : PGs X [] (TGsOf X.K []) := PGs.imp pgs_nil fun vs σ H Q ⟨bs, e, ds, e', N, r, h1, h2⟩ => by
  cases ds with
  | nil => cases r; cases h1; exact ⟨rfl, h2 _ N⟩
  | cons d ds => cases h1
theorem gs_cons {x : Str} {es : List Expr} {is : List Nat} (i : Nat) (hN : X.N.Nodup) (h2 : PGs X es (TGsOf X.K is)) (hi : X.N[i]? = some x := by rfl) (hx : Loc X.env.scope x := by first | exact Or.inl rfl | exact Or.inr rfl) (hf : X.fn x = true ∨ X.env.scope.names.lookup x = some .local := by first | exact .inl rfl | exact .inr rfl)
    (hs : (assignEach (.Name x pos :: es) X.env).map (·.2) = assign (.Name x pos) X.env :: (assignEach es X.env).map (·.2) := by rfl) : PGs X (.Name x pos :: es) (TGsOf X.K (i :: is)) :=
  PGs.imp (pgs_cons (pg_name hN hi hx hf) h2 hs) fun vs σ H Q ⟨bs, e, ds, e', N, r, h1, h2⟩ => by
    cases ds with
    | nil => cases h1
    | cons d ds =>
      cases r with
      | cons r rr => exact ⟨_, _, rfl, bs, _, ds, e', N.set i r, rr, h1, h2⟩
theorem g_tup {es : List Expr} {k n : Nat} {is : List Nat} (hc : X.calm = true) (h : PGs X es (TGsOf X.K is)) (hl : is.length = n := by rfl) (hn : (assignEach es X.env).length = n := by rfl) (hst : (assignEach es X.env).findIdx? (·.1) = none := by rfl) : SG X cl (.Tuple es k pos) (.t is) :=
  PG.imp (pg_tup hc h hn hst) fun v σ H Q ⟨bs, s, e, d, e', S, N, r, h1, h2⟩ => by
    cases d with
    | tup ds =>
      cases r with
      | @tup _ p vs q1 q2 =>
        have hlen : ∀ (is : List Nat) (ds : List D) (e : En), stAll e is ds = some e' → ds.length = is.length := by
          intro is
          induction is with
          | nil => intro ds e h; cases ds with | nil => rfl | cons _ _ => cases h
          | cons i is ih => intro ds e h; cases ds with | nil => cases h | cons d ds => simp [ih ds _ h]
        exact ⟨p, vs, rfl, sqT_mono (fun a o e => (hid_some e).2) q1, by rw [← q2.length, hlen _ _ _ h1, hl], bs, e, ds, e', N, q2, h1, h2⟩
    | _ => cases h1

/-! ### statements -/
def FlP (K : PySem.W.Frag) (cl : Str → Addr) (W : WX) (E : Ends) (fl : Fl) (bs : List Addr) (_ : Sto) (H : Hp) : Prop := match fl with
  | .nx e => ∀ σ', EnR K bs H e σ' → E.nx σ' H
  | .rt d => ∀ v, Rp K bs H d v → E.rt v H
  | .bk e => ∀ σ', EnR K bs H e σ' → E.bk σ' H
  | .ct e => ∀ σ', EnR K bs H e σ' → E.ct σ' H
  | .ex c fs e => ∀ σ' u dx, EnR K bs H e σ' → ExR K cl bs H c fs u dx → W u dx σ' H
def TSof (K : PySem.W.Frag) (cl : Str → Addr) (W : WX) (c : CS) : TS := fun E σ H => ∃ bs s e, StR K cl bs s H ∧ EnR K bs H e σ ∧ Run K cl F0 bs s H (c e) (FlP K cl W E)
def SS (X : Cx) (cl : Str → Addr) (W : WX) (st : Stmt) (c : CS) : Prop := PS X st (TSof X.K cl W c)
def SSs (X : Cx) (cl : Str → Addr) (W : WX) (st : List Stmt) (c : CS) : Prop := PSs X st (TSof X.K cl W c)
theorem Run.lft {K : PySem.W.Frag} {α : Type} {bs : List Addr} {s : Sto} {H : Hp} {e : En} {σ : L2.St} {m : Cm α} {k : α → Cm Fl} {E : Ends} (N : EnR K bs H e σ) (h : Run K cl F0 bs s H (lft e m k) (FlP K cl W E)) :
    Run K cl (fun u dx H' => W u dx σ H') bs s H m (fun a bs' t H' => Run K cl F0 bs' t H' (k a) (FlP K cl W E)) := by
  unfold Run G.lft at *
  cases q : m s with
  | ok a t =>
    rw [q] at h
    simp only at h ⊢
    intro b1 H1 g1 S1
    cases q2 : k a t with
    | ok b u => rw [q2] at h; exact fun b2 H2 g2 S2 => h b2 H2 (g1.trans g2) S2
    | ex c fs u => rw [q2] at h; exact fun b2 H2 x dx g2 S2 X2 => h b2 H2 x dx (g1.trans g2) S2 X2
    | no => rw [q2] at h; exact h
  | ex c fs t =>
    rw [q] at h
    simp only at h ⊢
    exact fun b1 H1 u dx g1 S1 X1 => h b1 H1 g1 S1 σ u dx (N.mono g1) X1
  | no => rw [q] at h; exact h
theorem ss_nil : SSs X cl W [] sNil := PSs.imp pss_nil fun E σ H ⟨bs, s, e, S, N, h⟩ => (Run.now S (a := Fl.nx e) (P := FlP X.K cl W E) h) σ N
theorem ss_cons {st : Stmt} {sts : List Stmt} {c d : CS} (h1 : SS X cl W st c) (h2 : SSs X cl W sts d) : SSs X cl W (st :: sts) (sSeq c d) := PSs.imp (pss_cons h1 h2) fun E σ H ⟨bs, s, e, S, N, h⟩ =>
  ⟨bs, s, e, S, N, (Run.bnd h).imp fun fl b1 t1 H1 g1 S1 k => by
    cases fl with
    | nx e' => exact fun σ' N' => ⟨b1, t1, e', S1, N', k⟩
    | rt d => exact Run.now S1 (W := F0) (a := Fl.rt d) (P := FlP X.K cl W E) k
    | bk e' => exact Run.now S1 (W := F0) (a := Fl.bk e') (P := FlP X.K cl W E) k
    | ct e' => exact Run.now S1 (W := F0) (a := Fl.ct e') (P := FlP X.K cl W E) k
    | ex c fs e' => exact Run.now S1 (W := F0) (a := Fl.ex c fs e') (P := FlP X.K cl W E) k⟩
theorem ss_one {st : Stmt} {c : CS} (h1 : SS X cl W st c) : SSs X cl W [st] c := pss_one h1
variable {e : Expr} {c : CE} {t : CT} {d1 d2 : CS}
theorem ss_set {x : Str} {p' : Pos} (i : Nat) (hN : X.N.Nodup) (he : SE X cl W e c) (hi : X.N[i]? = some x := by rfl) (hx : Loc X.env.scope x := by first | exact Or.inl rfl | exact Or.inr rfl) (hs : swapsWith e (some (.Name x p')) pos.line X.env = pure false := by rfl)
    (hf : X.fn x = true ∨ X.env.scope.names.lookup x = some .local := by first | exact .inl rfl | exact .inr rfl) : SS X cl W (.Assign [.Name x p'] e pos) (sSet i c) :=
  PS.imp (ps_set hN hi hx he hs hf) fun E σ H ⟨bs, s, e, S, N, h⟩ =>
    ⟨bs, s, e, S, N, (Run.lft N h).imp fun d b1 t1 H1 g1 S1 k v r => (Run.now S1 (a := Fl.nx _) (P := FlP X.K cl W E) k) _ ((N.mono g1).set i r)⟩
theorem ss_drop (he : SE X cl W e c) (hs : swapsWith e none pos.line X.env = pure false := by rfl) : SS X cl W (.Expr e pos) (sDrop c) := PS.imp (ps_expr he hs) fun E σ H ⟨bs, s, e, S, N, h⟩ =>
  ⟨bs, s, e, S, N, (Run.lft N h).imp fun d b1 t1 H1 g1 S1 k v r => (Run.now S1 (a := Fl.nx _) (P := FlP X.K cl W E) k) _ (N.mono g1)⟩
theorem ss_ret (he : SE X cl W e c) : SS X cl W (.Return (some e) pos) (sRet c) := PS.imp (ps_ret he) fun E σ H ⟨bs, s, e, S, N, h⟩ =>
  ⟨bs, s, e, S, N, (Run.lft N h).imp fun d b1 t1 H1 g1 S1 k v r => (Run.now S1 (a := Fl.rt _) (P := FlP X.K cl W E) k) _ r⟩
theorem ss_retN : SS X cl W (.Return none pos) sRetN := PS.imp ps_retN fun E σ H ⟨bs, s, e, S, N, h⟩ => (Run.now S (a := Fl.rt _) (P := FlP X.K cl W E) h) _ .non
theorem ss_pass : SS X cl W (.Pass pos) sNil := PS.imp ps_pass fun E σ H ⟨bs, s, e, S, N, h⟩ => (Run.now S (a := Fl.nx e) (P := FlP X.K cl W E) h) σ N
theorem ss_break : SS X cl W (.Break pos) sBreak := PS.imp ps_break fun E σ H ⟨bs, s, e, S, N, h⟩ => (Run.now S (a := Fl.bk e) (P := FlP X.K cl W E) h) σ N
theorem ss_cont : SS X cl W (.Continue pos) sCont := PS.imp ps_continue fun E σ H ⟨bs, s, e, S, N, h⟩ => (Run.now S (a := Fl.ct e) (P := FlP X.K cl W E) h) σ N
theorem ss_none {sts : List Stmt} : SSs X cl W sts (fun _ => noC) := ⟨fun _ _ _ _ _ _ h => by
  obtain ⟨_, _, _, _, _, h⟩ := h
  exact (show False from h).elim⟩
theorem ss_never {st : Stmt} : SS X cl W st sNever := PS.imp ps_never fun E σ H ⟨bs, s, e, S, N, h⟩ => h
theorem ss_if {a b : List Stmt} (hc : ST X cl W e t) (ha : SSs X cl W a d1) (hb : SSs X cl W b d2) : SS X cl W (.If e a b pos) (sIf t d1 d2) := PS.imp (ps_if hc ha hb) fun E σ H ⟨bs, s, e, S, N, h⟩ =>
  ⟨bs, s, e, S, N, (Run.lft N h).imp fun d b1 t1 H1 g1 S1 k => by
    cases d with
    | true => exact ⟨b1, t1, e, S1, N.mono g1, k⟩
    | false => exact ⟨b1, t1, e, S1, N.mono g1, k⟩⟩
/-- name op= e -/
theorem ss_aug {x : Str} {p' : Pos} {op : Operator} {f : D → D → Cm D} {r : R2} (i : Nat) (hN : X.N.Nodup) (ho : OpR X (inplaceOp op) r) (of : OpS X.K cl f r) (he : SE X cl W e c) (hi : X.N[i]? = some x := by rfl) (hx : Loc X.env.scope x := by first | exact Or.inl rfl | exact Or.inr rfl)
    (hf : X.fn x = true ∨ X.env.scope.names.lookup x = some .local := by first | exact .inl rfl | exact .inr rfl) : SS X cl W (.AugAssign (.Name x p') op e pos) (sAug i f c) :=
  PS.imp (ps_aug (ti := r) hN hi hx he (fun pins s σ H x y v u Q I r1 r2 h => ho pins s σ H x y v u Q I r1 r2 h) hf) fun E σ H ⟨bs, s, e, S, N, h⟩ => by
    cases q : sl e i with
    | none => exact (Run.of_no h (by unfold sAug; simp only [q]; rfl)).elim
    | some d0 =>
      obtain ⟨v0, hv, r0⟩ := N.at_ i d0 (sl_get.mp q)
      have h' : Run X.K cl F0 bs s H (lft e (c e) fun y => lft e (f d0 y) fun z => ret (.nx (st e i (some z)))) (FlP X.K cl W E) := by
        have e1 : sAug i f c e = (lft e (c e) fun y => lft e (f d0 y) fun z => ret (.nx (st e i (some z)))) := by unfold sAug; rw [q]
        rw [e1] at h
        exact h
      refine ⟨v0, hv, bs, s, e, S, N, (Run.lft N h').imp fun d b1 t1 H1 g1 S1 k v r => ?_⟩
      refine of _ b1 t1 H1 d0 d v0 v _ S1 (r0.mono g1) r ((Run.lft (N.mono g1) k).imp fun z b2 t2 H2 g2 S2 k2 w r2 => ?_)
      exact (Run.now S2 (a := Fl.nx _) (P := FlP X.K cl W E) k2) _ (((N.mono g1).mono g2).set i r2)
/-- o[i] = v of a list -/
def PuS (K : PySem.W.Frag) (cl : Str → Addr) (f : D → D → D → Cm Unit) (r : TSet) : Prop :=
  ∀ (W : Value → Option Addr → Hp → Prop) bs s H x y z v w u (Q : Hp → Prop), StR K cl bs s H → Rp K bs H x v → Rp K bs H y w → Rp K bs H z u → Run K cl W bs s H (f x y z) (fun _ _ _ H' => Q H') → r v w u H Q
theorem pu_lst {K : PySem.W.Frag} : PuS K cl dPutL rSetL := by
  intro W bs s H x y z v w u Q S r1 r2 r3 h
  cases x with
  | box j =>
    cases y with
    | int k =>
      cases q : lAt s j with
      | none => exact (Run.of_no h (by unfold dPutL; simp only [q])).elim
      | some ds =>
        obtain ⟨p, vs, e1, hp, e2, e3⟩ := S.lst q r1
        cases q2 : ixN ds.length k with
        | none => exact (Run.of_no h (by unfold dPutL; simp only [q, q2])).elim
        | some m =>
          refine ⟨p, vs, k, m, e1, r2.int_inv, e2, by rw [← e3.length]; exact q2, ?_⟩
          exact Run.of_ok h (a := ()) (t := s.set j (.lst (ds.set m z))) (by unfold dPutL; simp only [q, q2]) bs _ (gr_write hp e2) (S.write hp e2 (m := .lst (ds.set m z)) (o := .lst (vs.set m u)) (e3.set r3 m))
    | _ => exact (show False from h).elim
  | _ => exact (show False from h).elim
theorem ss_put {o i : Expr} {co ci : CE} {f : D → D → D → Cm Unit} {r : TSet} {p' : Pos} (hp : PSet X r) (pf : PuS X.K cl f r) (ho : SE X cl W o co) (hi : SE X cl W i ci) (he : SE X cl W e c)
    (hs : swapsWithSole [.Subscript o i p'] e pos.line X.env = pure false := by rfl) (hw : swappedStores [.Subscript o i p'] e X.env = pure none := by rfl) (h1 : (assignEach [.Subscript o i p'] X.env).map (·.2) = [assign (.Subscript o i p') X.env] := by rfl)
    (ha : ∀ v, assign (.Subscript o i p') X.env v = (do
      let ov ← holding [v] (eval o X.env)
      let iv ← holding [v, ov] (eval i X.env)
      standAt p'
      holding [v, ov, iv] (setItem ov iv v)
      release [v, ov, iv] []) := by intro _; rfl) : SS X cl W (.Assign [.Subscript o i p'] e pos) (sPut f co ci c) :=
  PS.imp (ps_asg he (pg_sub ho hi hp ha) hs hw h1) fun E σ H ⟨bs, s, e, S, N, h⟩ => by
    refine ⟨bs, s, e, S, N, (Run.lft N h).imp fun z b1 t1 H1 g1 S1 k v r => ⟨b1, t1, e, S1, N.mono g1, (Run.lft (N.mono g1) k).imp fun x b2 t2 H2 g2 S2 k2 w r2 => ⟨b2, t2, e, S2, (N.mono g1).mono g2, (Run.lft ((N.mono g1).mono g2) k2).imp fun y b3 t3 H3 g3 S3 k3 u r3 => ?_⟩⟩⟩
    have N3 := ((N.mono g1).mono g2).mono g3
    exact pf _ b3 t3 H3 x y z w u v _ S3 (r2.mono g3) r3 (r.mono (g2.trans g3)) ((Run.lft N3 k3).imp fun _ b4 t4 H4 g4 S4 k4 => (Run.now S4 (a := Fl.nx e) (P := FlP X.K cl W E) k4) _ (N3.mono g4))
/-- a, b = x, y with plain local names -/
theorem ss_par2 {i j : Nat} {x y : Str} {a b : Expr} {ca : CA} {px py pt : Pos} {kt k2 pt2} (hc : X.calm = true) (hN : X.N.Nodup) (ha : SA X cl W [a, b] ca) (hi : X.N[i]? = some x := by rfl) (hj : X.N[j]? = some y := by rfl) (hij : i ≠ j := by decide)
    (hx : X.env.scope.names.lookup x = some .local := by rfl) (hy : X.env.scope.names.lookup y = some .local := by rfl)
    (hw : swappedStores [.Tuple [.Name x px, .Name y py] kt pt] (.Tuple [a, b] k2 pt2) X.env = pure (some [x, y]) := by rfl)
    (hs : swapsWithSole [.Tuple [.Name x px, .Name y py] kt pt] (.Tuple [a, b] k2 pt2) pos.line X.env = pure false := by rfl) :
    SS X cl W (.Assign [.Tuple [.Name x px, .Name y py] kt pt] (.Tuple [a, b] k2 pt2) pos) (sPar [i, j] ca) :=
  PS.imp (ps_par hc hN hi hj hij hx hy ha hw hs) fun E σ H ⟨bs, s, e, S, N, h⟩ => by
    refine ⟨bs, s, e, S, N, (Run.lft N h).imp fun ds b1 t1 H1 g1 S1 k vs r => ?_⟩
    cases q : stAll e [i, j] ds with
    | none => exact (Run.of_no k (by simp only [q]; rfl)).elim
    | some e' =>
      simp only [q] at k
      have N1 := N.mono g1
      match ds, r, q with
      | [], r, q => cases q
      | [_], r, q => cases q
      | d1 :: d2 :: d3 :: _, r, q => cases q
      | [d1, d2], r, q =>
        obtain ⟨v, w, rfl, r1, r2⟩ := r.two
        cases q
        exact ⟨v, w, rfl, (Run.now S1 (a := Fl.nx _) (P := FlP X.K cl W E) k) _ ((N1.set i r1).set j r2)⟩
theorem ss_par3 {i j l : Nat} {x y z : Str} {a b c : Expr} {ca : CA} {px py pz pt : Pos} {kt k2 pt2} (hc : X.calm = true) (hN : X.N.Nodup) (ha : SA X cl W [a, b, c] ca) (hi : X.N[i]? = some x := by rfl) (hj : X.N[j]? = some y := by rfl) (hl : X.N[l]? = some z := by rfl) (hij : i ≠ j := by decide) (hil : i ≠ l := by decide) (hjl : j ≠ l := by decide)
    (hx : X.env.scope.names.lookup x = some .local := by rfl) (hy : X.env.scope.names.lookup y = some .local := by rfl) (hz : X.env.scope.names.lookup z = some .local := by rfl)
    (hw : swappedStores [.Tuple [.Name x px, .Name y py, .Name z pz] kt pt] (.Tuple [a, b, c] k2 pt2) X.env = pure (some [x, y, z]) := by rfl)
    (hs : swapsWithSole [.Tuple [.Name x px, .Name y py, .Name z pz] kt pt] (.Tuple [a, b, c] k2 pt2) pos.line X.env = pure false := by rfl) :
    SS X cl W (.Assign [.Tuple [.Name x px, .Name y py, .Name z pz] kt pt] (.Tuple [a, b, c] k2 pt2) pos) (sPar [i, j, l] ca) :=
  PS.imp (ps_par3 hc hN hi hj hl hij hil hjl hx hy hz ha hw hs) fun E σ H ⟨bs, s, e, S, N, h⟩ => by
    refine ⟨bs, s, e, S, N, (Run.lft N h).imp fun ds b1 t1 H1 g1 S1 k vs r => ?_⟩
    cases q : stAll e [i, j, l] ds with
    | none => exact (Run.of_no k (by simp only [q]; rfl)).elim
    | some e' =>
      simp only [q] at k
      have N1 := N.mono g1
      match ds, r, q with
      | [], r, q => cases q
      | [_], r, q => cases q
      | [_, _], r, q => cases q
      | d1 :: d2 :: d3 :: d4 :: _, r, q => cases q
      | [d1, d2, d3], r, q =>
        cases r with
        | cons r1 rr =>
          obtain ⟨v, w, rfl, r2, r3⟩ := rr.two
          cases q
          exact ⟨_, v, w, rfl, (Run.now S1 (a := Fl.nx _) (P := FlP X.K cl W E) k) _ (((N1.set i r1).set j r2).set l r3)⟩
/-- a, b, .. = e, a tuple -/
theorem ss_unp {es : List Expr} {k n : Nat} {is : List Nat} {p' : Pos} (hc : X.calm = true) (h : PGs X es (TGsOf X.K is)) (he : SE X cl W e c) (hl : is.length = n := by rfl) (hn : (assignEach es X.env).length = n := by rfl) (hst : (assignEach es X.env).findIdx? (·.1) = none := by rfl)
    (hs : swapsWithSole [.Tuple es k p'] e pos.line X.env = pure false := by rfl) (hw : swappedStores [.Tuple es k p'] e X.env = pure none := by rfl) (h1 : (assignEach [.Tuple es k p'] X.env).map (·.2) = [assign (.Tuple es k p') X.env] := by rfl) :
    SS X cl W (.Assign [.Tuple es k p'] e pos) (sUnp is c) :=
  PS.imp (ps_asg he (g_tup (cl := cl) hc h hl hn hst) hs hw h1) fun E σ H ⟨bs, s, e, S, N, h⟩ => by
    refine ⟨bs, s, e, S, N, (Run.lft N h).imp fun z b1 t1 H1 g1 S1 k v r => ?_⟩
    cases z with
    | tup ds =>
      cases q : stAll e is ds with
      | none => exact (Run.of_no k (by simp only [q]; rfl)).elim
      | some e' =>
        simp only [q] at k
        exact ⟨b1, t1, e, .tup ds, e', S1, N.mono g1, r, q, fun σ' N' => (Run.now S1 (a := Fl.nx e') (P := FlP X.K cl W E) k) _ N'⟩
    | _ => exact (show False from k).elim
end
end G

set_option Elab.async false
set_option linter.all false
set_option maxRecDepth 100000
set_option maxHeartbeats 4000000
/-! G, soundness: what is walked by zip and enumerate, of lists, tuples, texts in any mix. -/
namespace G
open PySem L2 PySem.Spec PyProof.Rows

/-- a walked thing: a list, a tuple, a text -/
inductive SrcK where
  | l (p : Addr) | t (p : Addr) | s (z : Str) (u : Tok)
def chV (z : Str) : List V := z.cps.toList.map fun c => V.str ⟨#[c]⟩
def SrcK.rows (K : PySem.W.Frag) (H : Hp) : SrcK → List V → Prop
  | .l p, vs => SqL K H p vs
  | .t p, vs => SqT K H p vs
  | .s z _, vs => vs = chV z
def SrcK.fp : SrcK → List Addr
  | .l p => [p]
  | .t p => [p]
  | .s _ _ => []
def SrcK.val : SrcK → Value
  | .l p => .ref p
  | .t p => .ref p
  | .s z u => .str z u
def SrcK.st : SrcK → Addr → Nat → Heap → Prop
  | .l p, it, i, h => h.IsListIter it p i
  | .t p, it, i, h => h.IsTupleIter it p i
  | .s z u, it, i, h => h.IsStrIter it (strIterType z) z u i
section
variable {X : Cx} {pins : List (Addr × Obj)} {σ : L2.St} {H : Hp} {s : Shared} {k : SrcK} {it : Addr}
theorem SrcK.inj (I : Inv X pins σ H s) {xs ys : List V} (h : k.rows X.K H xs) (h' : k.rows X.K H ys) : xs = ys := by
  cases k with
  | l p => exact I.list_inj h h'
  | t p => exact I.tuple_inj h h'
  | s z u => exact (show xs = chV z from h).trans (show ys = chV z from h').symm
theorem SrcK.obj {i : Nat} {h : Heap} (a : k.st it i h) : ∃ o, h.get? it = some o ∧ ∀ v, o.data ≠ .cell v := by
  cases k with
  | l p => obtain ⟨o, e, _, d⟩ := (show h.IsListIter it p i from a); exact ⟨o, e, fun v q => by rw [d] at q; cases q⟩
  | t p => obtain ⟨o, e, _, d⟩ := (show h.IsTupleIter it p i from a); exact ⟨o, e, fun v q => by rw [d] at q; cases q⟩
  | s z u => obtain ⟨o, e, _, d⟩ := (show h.IsStrIter it (strIterType z) z u i from a); exact ⟨o, e, fun v q => by rw [d] at q; cases q⟩
theorem SrcK.keep {i : Nat} {h h' : Heap} (a : k.st it i h) (e : ∀ o, h.get? it = some o → h'.get? it = some o) : k.st it i h' := by
  cases k with
  | l p => obtain ⟨o, q, r⟩ := (show h.IsListIter it p i from a); exact ⟨o, e o q, r⟩
  | t p => obtain ⟨o, q, r⟩ := (show h.IsTupleIter it p i from a); exact ⟨o, e o q, r⟩
  | s z u => obtain ⟨o, q, r⟩ := (show h.IsStrIter it (strIterType z) z u i from a); exact ⟨o, e o q, r⟩
theorem SrcK.low (I : Inv X pins σ H s) {vs : List V} (h : k.rows X.K H vs) : ∀ b ∈ k.fp, b < s.heap.objs.size := by
  intro b hb
  cases k with
  | l p =>
    obtain ⟨its, _, q, _⟩ := I.list h
    have e : b = p := by simpa [SrcK.fp] using hb
    rw [e]; exact q.lt
  | t p =>
    obtain ⟨its, _, ⟨o, q, _⟩, _⟩ := I.tuple h
    have e : b = p := by simpa [SrcK.fp] using hb
    rw [e]; exact Heap.lt_size q
  | s z u => simp [SrcK.fp] at hb
theorem SrcK.draws (I : Inv X pins σ H s) {A : Around} (hh : A.handled = none) (hne : it ∉ k.fp) {vs : List V} (h : k.rows X.K H vs) :
    ∃ P St, Draws X.prog X.w A it (it :: k.fp) vs.length P St ∧ (∀ i, k.st it i s.heap → St i s.heap) ∧ (∀ i g, St i g → k.st it i g) ∧ ∀ i u, P i u → ∃ v, vs[i]? = some v ∧ RelV v u := by
  cases k with
  | l p =>
    obtain ⟨its, r, q, _⟩ := I.list h
    have ne : p ≠ it := fun e => hne (by simp [SrcK.fp, e])
    have D := Draws.list (prog := X.prog) (w := X.w) hh it p ne its.toArray
    rw [show its.toArray.size = vs.length by simp [r.length]] at D
    refine ⟨_, _, D, fun i a => ⟨a, q.isList⟩, fun i g a => a.1, fun i u a => ?_⟩
    have a : its[i]? = some u := by simpa using a
    have hi : i < vs.length := by rw [r.length]; exact (List.getElem?_eq_some_iff.mp a).1
    obtain ⟨u', e1, e2⟩ := r.get (List.getElem?_eq_getElem hi)
    rw [a] at e1
    cases e1
    exact ⟨_, List.getElem?_eq_getElem hi, e2⟩
  | t p =>
    obtain ⟨its, r, q, _⟩ := I.tuple h
    have ne : p ≠ it := fun e => hne (by simp [SrcK.fp, e])
    have D := Draws.tuple (prog := X.prog) (w := X.w) hh it p ne its.toArray
    rw [show its.toArray.size = vs.length by simp [r.length]] at D
    refine ⟨_, _, D, fun i a => ⟨a, q⟩, fun i g a => a.1, fun i u a => ?_⟩
    have a : its[i]? = some u := by simpa using a
    have hi : i < vs.length := by rw [r.length]; exact (List.getElem?_eq_some_iff.mp a).1
    obtain ⟨u', e1, e2⟩ := r.get (List.getElem?_eq_getElem hi)
    rw [a] at e1
    cases e1
    exact ⟨_, List.getElem?_eq_getElem hi, e2⟩
  | s z u =>
    have h : vs = chV z := h
    subst h
    have D := Draws.text (prog := X.prog) (w := X.w) hh it z u
    rw [show z.cps.size = (chV z).length by simp [chV]] at D
    refine ⟨_, _, D, fun i a => a, fun i g a => a, fun i w a => ?_⟩
    obtain ⟨c, t, e1, e2⟩ := a
    refine ⟨.str ⟨#[c]⟩, ?_, ⟨t, e2⟩⟩
    unfold chV
    rw [List.getElem?_map, Array.getElem?_toList, e1]
    rfl
theorem SrcK.begins (I : Inv X pins σ H s) {vs : List V} (h : k.rows X.K H vs) : ∃ o G, Begins k.val o G ∧ G s.heap ∧ ∀ it g, g.get? it = some o → k.st it 0 g := by
  cases k with
  | l p =>
    obtain ⟨its, r, q, _⟩ := I.list h
    exact ⟨_, _, begins_list p its.toArray, q.isList, fun it g e => ⟨_, e, rfl, rfl⟩⟩
  | t p =>
    obtain ⟨its, r, q, _⟩ := I.tuple h
    exact ⟨_, _, begins_tuple p its.toArray, q, fun it g e => ⟨_, e, rfl, rfl⟩⟩
  | s z u => exact ⟨_, _, begins_text z u, trivial, fun it g e => ⟨_, e, rfl, rfl⟩⟩
end
/-- pairs, as they come -/
def ItP (K : PySem.W.Frag) (k1 k2 : SrcK) : It :=
  ⟨fun i H => ∃ xs ys : List V, k1.rows K H xs ∧ k2.rows K H ys ∧ i < xs.length ∧ i < ys.length,
    fun i H v H' => ∃ T x y, v = .ref T ∧ H T = none ∧ H' = upd H T (.tup [x, y]) ∧ (∀ xs, k1.rows K H xs → xs[i]? = some x) ∧ ∀ ys, k2.rows K H ys → ys[i]? = some y,
    fun i H => ∃ xs ys : List V, k1.rows K H xs ∧ k2.rows K H ys ∧ i = min xs.length ys.length⟩
theorem turnP {P : Program} {w : World} {K : PySem.W.Frag} {elts : List Expr} {kk : Nat} {tpos : Pos} {k1 k2 : SrcK} {z TI TO i1 i2 : Addr} (S : ZipSep2 z TI TO i1 i2 (i1 :: k1.fp) (i2 :: k2.fp)) (n1 : i1 ∉ k1.fp) (n2 : i2 ∉ k2.fp) :
    Turn P w K (.Tuple elts kk tpos) (ItP K k1 k2) [z, TI, TO, i1, i2] z (fun i h => IsZip h z TI TO .none ∧ IsTupOf2 h TI (.ref i1) (.ref i2) ∧ (∃ a b, IsTupOf2 h TO a b) ∧ k1.st i1 i h ∧ k2.st i2 i h) where
  mem := by simp
  obj := fun i h ⟨hz, hI, ⟨a, b, hO⟩, q1, q2⟩ c hc => by
    simp only [List.mem_cons, List.not_mem_nil, or_false] at hc
    rcases hc with rfl | rfl | rfl | rfl | rfl
    · exact ⟨_, hz, nofun⟩
    · exact ⟨_, hI, nofun⟩
    · exact ⟨_, hO, nofun⟩
    · exact SrcK.obj q1
    · exact SrcK.obj q2
  keep := fun i h h' ⟨hz, hI, ⟨a, b, hO⟩, q1, q2⟩ e =>
    ⟨e z (by simp) _ hz, e TI (by simp) _ hI, ⟨a, b, e TO (by simp) _ hO⟩, SrcK.keep q1 (e i1 (by simp)), SrcK.keep q2 (e i2 (by simp))⟩
  item := by
    intro X e1 e2 e3 hc i pins s σ H E I hf st ⟨xs, ys, r1, r2, l1, l2⟩
    subst e1 e2 e3
    have st' := st
    obtain ⟨hz, hI, hO, q1, q2⟩ := st
    have hd : X.A.in1.handled = none := I.ok.hd hc
    obtain ⟨P1, S1, D1, a1, b1, c1⟩ := SrcK.draws I hd n1 r1
    obtain ⟨P2, S2, D2, a2, b2, c2⟩ := SrcK.draws I hd n2 r2
    have W := GoesN.zip2 (elts := elts) (x1 := kk) (pos := tpos) S D1 D2
    refine W.goes i s _ E (by omega) ⟨hz, hI, hO, a1 i q1, a2 i q2⟩ fun v h' tk ⟨T, x, y, ev, hT, p1, p2, hq⟩ ⟨hz', hI', hO', s1, s2⟩ hk _ => ?_
    obtain ⟨vx, ex, rx⟩ := c1 i x p1
    obtain ⟨vy, ey, ry⟩ := c2 i y p2
    subst ev
    have new : ObjOk X.prog X.w (upd H T (.tup [vx, vy])) h' T (.tup [vx, vy]) := ⟨by show 2 ≤ sizeLine; rw [sizeLine_eq]; decide, [x, y], .cons rx (.cons ry .nil), hq⟩
    have I1 := I.turnedNew (t' := tk) (ch := [z, TI, TO, i1, i2]) (fun b o hb e => hk b o (fun q => hb (by
      simp only [List.mem_cons, List.not_mem_nil, or_false] at q ⊢
      rcases q with q | q | q | q
      · exact .inl q
      · exact .inr (.inr (.inl q))
      · exact .inr (.inr (.inr (.inl q)))
      · exact .inr (.inr (.inr (.inr q))))) e) hf hT new
    refine ⟨.ref T, _, I1, rfl, ⟨T, vx, vy, rfl, I.hok.fresh hT, rfl, fun l hl => by rw [SrcK.inj I hl r1]; exact ex, fun l hl => by rw [SrcK.inj I hl r2]; exact ey⟩, ⟨hz', hI', hO', b1 _ _ s1, b2 _ _ s2⟩, fun c hm => ?_⟩
    have ne : c ≠ T := by
      have lt : c < s.heap.objs.size := by
        simp only [List.mem_cons, List.not_mem_nil, or_false] at hm
        obtain ⟨a, b, hO⟩ := hO
        rcases hm with rfl | rfl | rfl | rfl | rfl
        · exact Heap.lt_size hz
        · exact Heap.lt_size hI
        · exact Heap.lt_size hO
        · obtain ⟨_, e, _⟩ := SrcK.obj q1; exact Heap.lt_size e
        · obtain ⟨_, e, _⟩ := SrcK.obj q2; exact Heap.lt_size e
      exact Nat.ne_of_lt (Nat.lt_of_lt_of_le lt hT)
    rw [upd_ne ne]
    exact (hf c hm).1
  done := by
    intro X e1 e2 e3 hc i pins s σ H E I hf st ⟨xs, ys, r1, r2, hi⟩
    subst e1 e2 e3 hi
    obtain ⟨hz, hI, hO, q1, q2⟩ := st
    have hd : X.A.in1.handled = none := I.ok.hd hc
    obtain ⟨P1, S1, D1, a1, b1, c1⟩ := SrcK.draws I hd n1 r1
    obtain ⟨P2, S2, D2, a2, b2, c2⟩ := SrcK.draws I hd n2 r2
    have W := GoesN.zip2 (elts := elts) (x1 := kk) (pos := tpos) S D1 D2
    exact W.stops s _ E ⟨hz, hI, hO, a1 _ q1, a2 _ q2⟩ fun h' tk hk _ => I.turnedL (t' := tk) (ch := [z, TI, TO, i1, i2]) (fun b o hb e => hk b o (fun q => hb (by
      simp only [List.mem_cons, List.not_mem_nil, or_false] at q ⊢
      rcases q with q | q | q | q
      · exact .inl q
      · exact .inr (.inr (.inl q))
      · exact .inr (.inr (.inr (.inl q)))
      · exact .inr (.inr (.inr (.inr q))))) e) hf
  self := fun A i s Q E st h => wpAny_pyIter_zip st.1 h
/-- what a value is, whatever its token -/
def SrcF (K : PySem.W.Frag) (H : Hp) (v : V) (k : Tok → SrcK) : Prop := (∃ p, v = .ref p ∧ k = fun _ => .l p) ∨ (∃ p, v = .ref p ∧ k = fun _ => .t p) ∨ ∃ z, v = .str z ∧ k = fun u => .s z u
theorem SrcF.val {K : PySem.W.Frag} {H : Hp} {v : V} {k : Tok → SrcK} (h : SrcF K H v k) {u : Value} (r : RelV v u) : ∃ t, (k t).val = u := by
  rcases h with ⟨p, rfl, rfl⟩ | ⟨p, rfl, rfl⟩ | ⟨z, rfl, rfl⟩
  · exact ⟨0, (show u = Value.ref p from r).symm⟩
  · exact ⟨0, (show u = Value.ref p from r).symm⟩
  · obtain ⟨t, e⟩ := (show ∃ t, u = Value.str z t from r); exact ⟨t, e.symm⟩
def iZipG (K : PySem.W.Frag) (ta : TA) : TI := fun σ H R => ta σ H fun vs H1 => ∃ v1 v2 k1 k2 xs ys, vs = [v1, v2] ∧ SrcF K H1 v1 k1 ∧ SrcF K H1 v2 k2 ∧ (∀ t, (k1 t).rows K H1 xs) ∧ (∀ t, (k2 t).rows K H1 ys) ∧ ∀ t u, R (ItP K (k1 t) (k2 u)) H1
theorem pi_zipG {X : Cx} {e e2 : Expr} {ta : TA} {p pos tpos : Pos} {elts : List Expr} {kk : Nat} (hg : Gl X "zip") (hm : X.mg "zip" = none) (ha : PA X [e, e2] ta)
    (hs : starEach [e, e2] X.env = (false, eval e X.env) :: starEach [e2] X.env := by rfl) (hpl : (backTo pos (starEach [e2] X.env)).any (·.1) = false := by rfl) :
    PI X (.Tuple elts kk tpos) (.Call (.Name "zip" p) [e, e2] [] pos) (iZipG X.K ta) := by
  refine ⟨fun pins s σ H R I h => ?_⟩
  refine Call_ (ld_blt I hg hm boot_zip (callWith_type1 (thn (ha.run pos pins s σ H _ I h) fun us s1 ⟨vs, H1, I1, r1, q1⟩ => ?_) hs hpl))
  obtain ⟨v1, v2, k1, k2, xs, ys, rfl, f1, f2, w1, w2, hR⟩ := q1
  cases r1 with
  | cons r rr =>
  cases rr with
  | cons r' rr =>
  cases rr
  obtain ⟨t1, rfl⟩ := f1.val r
  obtain ⟨t2, rfl⟩ := f2.val r'
  obtain ⟨o1, G1, B1, g1, z1⟩ := SrcK.begins I1 (w1 t1)
  obtain ⟨o2, G2, B2, g2, z2⟩ := SrcK.begins I1 (w2 t2)
  have lo1 := SrcK.low I1 (w1 t1)
  have lo2 := SrcK.low I1 (w2 t2)
  refine zip_begins2 B1 B2 g1 g2 fun h' hz hI hO h1 h2 hsz hk => wpAny_pyIter_zip hz ?_
  have I2 : Inv X pins σ H1 { s1 with heap := h' } := I1.kept (t' := s1.toks) hk
  refine ⟨s1.heap.objs.size + 4, [s1.heap.objs.size + 4, s1.heap.objs.size + 2, s1.heap.objs.size + 3, s1.heap.objs.size, s1.heap.objs.size + 1], _, _, H1, rfl, I2, turnP (zip_sep2 lo1 lo2) (fun q => Nat.lt_irrefl _ (lo1 _ q)) (fun q => Nat.lt_irrefl _ (Nat.lt_of_succ_lt (lo2 _ q))), ⟨hz, hI, ⟨_, _, hO⟩, z1 _ _ h1, z2 _ _ h2⟩, fun c hc => ?_, hR t1 t2⟩
  have hle : s1.heap.objs.size ≤ c := by
    simp only [List.mem_cons, List.not_mem_nil, or_false] at hc
    rcases hc with rfl | rfl | rfl | rfl | rfl
    · exact Nat.le_add_right _ 4
    · exact Nat.le_add_right _ 2
    · exact Nat.le_add_right _ 3
    · exact Nat.le_refl _
    · exact Nat.le_add_right _ 1
  exact I1.fpOk hle (I1.hok.fresh hle)
theorem zipD_len : ∀ {xs ys : List D}, (zipD xs ys).length = min xs.length ys.length
  | [], ys => by simp [zipD]
  | x :: xs, [] => by simp [zipD]
  | x :: xs, y :: ys => by simp only [zipD, List.length_cons, zipD_len]; omega
theorem zipD_get : ∀ {xs ys : List D} {i : Nat} {x y : D}, xs[i]? = some x → ys[i]? = some y → (zipD xs ys)[i]? = some (.tup [x, y])
  | [], ys, i, x, y, h, _ => by simp at h
  | a :: xs, [], i, x, y, _, h => by simp at h
  | a :: xs, b :: ys, 0, x, y, h, h' => by simp at h h'; subst h h'; rfl
  | a :: xs, b :: ys, i + 1, x, y, h, h' => by
    simp only [zipD, List.getElem?_cons_succ] at h h' ⊢
    exact zipD_get h h'
/-- what a row is, from here on -/
theorem kindOf {K : PySem.W.Frag} {cl : Str → Addr} {d : D} {v : V} {b0 : List Addr} {H0 : Hp} {s0 : Sto} (S0 : StR K cl b0 s0 H0) (r : Rp K b0 H0 d v) {xs0 : List D} (q0 : rowOf s0 d = some xs0) :
    ∃ k, SrcF K H0 v k ∧ ∀ bs s H xs, Gr b0 H0 bs H → StR K cl bs s H → rowOf s d = some xs → ∃ vs, (∀ t, (k t).rows K H vs) ∧ RpL K bs H xs vs := by
  by_cases ns : ∃ z, d = .str z
  · obtain ⟨z, rfl⟩ := ns
    refine ⟨fun u => .s z u, .inr (.inr ⟨z, r.str_inv, rfl⟩), fun bs s H xs g S q => ?_⟩
    have q : (if z.length ≤ big then some (chars z) else none) = some xs := q
    by_cases c : z.length ≤ big
    · rw [if_pos c] at q
      cases q
      exact ⟨_, fun _ => rfl, chars_ok z⟩
    · rw [if_neg c] at q; cases q
  · have ne : ∀ z, d ≠ .str z := fun z e => ns ⟨z, e⟩
    rw [row_seq ne] at q0
    obtain ⟨p, vs0, ev, _, _⟩ := S0.items q0 r
    by_cases nt : ∃ ds, d = .tup ds
    · obtain ⟨ds, rfl⟩ := nt
      refine ⟨fun _ => .t p, .inr (.inl ⟨p, ev, rfl⟩), fun bs s H xs g S q => ?_⟩
      obtain ⟨vs, h1, h2⟩ := seqs_t (cl := cl) r ev bs s H xs g S q
      exact ⟨vs, fun _ => h1, h2⟩
    · refine ⟨fun _ => .l p, .inl ⟨p, ev, rfl⟩, fun bs s H xs g S q => ?_⟩
      rw [row_seq ne] at q
      obtain ⟨vs, h1, h2⟩ := seqs_l (cl := cl) r ev (fun ds e => nt ⟨ds, e⟩) bs s H xs g S q
      exact ⟨vs, fun _ => h1, h2⟩
theorem i_zip {X : Cx} {cl : Str → Addr} {W : WX} {a b : Expr} {ca cb : CE} {p pos tpos : Pos} {elts : List Expr} {kk : Nat} (hg : Gl X "zip") (hm : X.mg "zip" = none) (ha : SE X cl W a ca) (hb : SE X cl W b cb)
    (h1 : starEach [a, b] X.env = (false, eval a X.env) :: starEach [b] X.env := by rfl) (h2 : starEach [b] X.env = (false, eval b X.env) :: starEach [] X.env := by rfl) (hpl : (backTo pos (starEach [b] X.env)).any (·.1) = false := by rfl) :
    SI X cl W (.Tuple elts kk tpos) (.Call (.Name "zip" p) [a, b] [] pos) (iZip ca cb) := by
  refine PI.imp (pi_zipG hg hm (pa_cons ha (pa_cons hb pa_nil h2) h1) h1 hpl) fun σ H R ⟨bs, s, e, S, N, h⟩ => ?_
  refine ⟨bs, s, e, S, N, (Run.bnd h).imp fun x b1 t1 H1 g1 S1 k1 v r1 => ⟨b1, t1, e, S1, N.mono g1, (Run.bnd k1).imp fun y b2 t2 H2 g2 S2 k2 w r2 => ?_⟩⟩
  have r1 := r1.mono g2
  cases q1 : rowOf t2 x with
  | none => exact (Run.of_no k2 (by simp only [q1])).elim
  | some xs =>
  cases q2 : rowOf t2 y with
  | none => exact (Run.of_no k2 (by simp only [q1, q2])).elim
  | some ys =>
  have fin := Run.of_ok k2 (a := .zip x y) (t := t2) (by simp only [q1, q2]) b2 H2 (Gr.refl _ _) S2
  obtain ⟨f1, sf1, m1⟩ := kindOf S2 r1 q1
  obtain ⟨f2, sf2, m2⟩ := kindOf S2 r2 q2
  obtain ⟨vs, w1, _⟩ := m1 b2 t2 H2 xs (Gr.refl _ _) S2 q1
  obtain ⟨us, w2, _⟩ := m2 b2 t2 H2 ys (Gr.refl _ _) S2 q2
  refine ⟨v, w, f1, f2, vs, us, rfl, sf1, sf2, w1, w2, fun tk uk => fin _ ?_⟩
  intro bs s H all g S q i
  have q : (match rowOf s x, rowOf s y with | some xs, some ys => some (zipD xs ys) | _, _ => none) = some all := q
  cases z1 : rowOf s x with
  | none => rw [z1] at q; cases q
  | some xs2 =>
  cases z2 : rowOf s y with
  | none => rw [z1, z2] at q; cases q
  | some ys2 =>
  rw [z1, z2] at q
  cases q
  obtain ⟨vs2, y1, y2⟩ := m1 bs s H xs2 g S z1
  obtain ⟨us2, y3, y4⟩ := m2 bs s H ys2 g S z2
  rw [zipD_len]
  have l1 := y2.length
  have l2 := y4.length
  refine ⟨fun hi => ⟨⟨vs2, us2, y1 _, y3 _, by omega, by omega⟩, fun X' H' yy => ?_⟩, fun hi => ⟨vs2, us2, y1 _, y3 _, by omega⟩⟩
  obtain ⟨T, xv, yv, rfl, hT, rfl, e1, e2⟩ := yy
  obtain ⟨dx, o1, o2⟩ := y2.get' (e1 _ (y1 _))
  obtain ⟨dy, o3, o4⟩ := y4.get' (e2 _ (y3 _))
  exact ⟨gr_new hT, S.new hT, _, zipD_get o1 o3, Rp.newT S hT (.cons o2 (.cons o4 .nil))⟩
end G

set_option Elab.async false
set_option linter.all false
set_option maxRecDepth 100000
set_option maxHeartbeats 4000000
/-! G, soundness: for, while, comprehensions, list methods, defs. -/
namespace G
open PySem L2 PySem.Spec PyProof.Rows
section
variable {X : Cx} {cl : Str → Addr} {W : WX} {tg it e : Expr} {ci : CS'} {tgp : Tg} {cb : CS} {ct : CT} {pos : Pos}
theorem drop_cases {α : Type} (l : List α) (i : Nat) (h : i ≤ l.length) : (l.drop i = [] ∧ i = l.length) ∨ ∃ x, l.drop i = x :: l.drop (i + 1) ∧ l[i]? = some x ∧ i < l.length := by
  by_cases q : i < l.length
  · exact .inr ⟨l[i], List.drop_eq_getElem_cons q, List.getElem?_eq_getElem q, q⟩
  · have : i = l.length := by omega
    exact .inl ⟨by rw [this]; simp, this⟩
theorem ss_for {body : List Stmt} (hp : PassesOwn (model X.prog X.w) X.A X.env X.xe) (hc : X.calm = true) (hi : SI X cl W tg it ci) (hg : SG X cl tg tgp) (hb : SSs X cl W body cb)
    (hs : ∀ x, foldedSetIterable it X.env x = pure x := by intro _; rfl) : SS X cl W (.For tg it body [] pos) (sFor ci tgp cb) := PS.imp (ps_for hp hc hi hg hb hs) fun E σ H ⟨bs, s, e, S, N, h⟩ => by
  refine ⟨bs, s, e, S, N, (Run.lft N h).imp fun w b1 t1 H1 g1 S1 k J hJ => ?_⟩
  cases q : w.items t1 with
  | none => exact (Run.of_no k (by simp only [q])).elim
  | some all =>
    have k : Run X.K cl F0 b1 t1 H1 (forL w all tgp cb all e) (FlP X.K cl W E) := by
      unfold Run at k ⊢
      simp only [q] at k
      exact k
    refine ⟨fun i m σ H => m = all.length - i ∧ i ≤ all.length ∧ ∃ bs s e, Gr b1 H1 bs H ∧ StR X.K cl bs s H ∧ EnR X.K bs H e σ ∧ Run X.K cl F0 bs s H (forL w all tgp cb (all.drop i) e) (FlP X.K cl W E),
      ⟨_, rfl, Nat.zero_le _, b1, t1, e, Gr.refl _ _, S1, N.mono g1, by simpa using k⟩, ?_⟩
    rintro i m σ2 H2 ⟨rfl, hi, b2, t2, e2, g2, S2, N2, k2⟩
    rcases drop_cases all i hi with ⟨z, hz⟩ | ⟨x, z, hx, hlt⟩
    · rw [z] at k2
      by_cases c : w.items t2 = some all
      · have k3 := Run.of_ok k2 (a := Fl.nx e2) (t := t2) (by unfold forL; rw [if_pos c]) b2 H2 (Gr.refl _ _) S2
        exact .inl ⟨(hJ b2 t2 H2 all g2 S2 c i).2 (by omega), k3 σ2 N2⟩
      · exact (Run.of_no k2 (by unfold forL; rw [if_neg c])).elim
    · rw [z] at k2
      by_cases c : w.items t2 = some all
      · obtain ⟨j1, j2⟩ := (hJ b2 t2 H2 all g2 S2 c i).1 hlt
        refine .inr ⟨j1, fun σ' H' => all.length - (i + 1) = all.length - (i + 1) ∧ i + 1 ≤ all.length ∧ ∃ bs s e, Gr b1 H1 bs H' ∧ StR X.K cl bs s H' ∧ EnR X.K bs H' e σ' ∧ Run X.K cl F0 bs s H' (forL w all tgp cb (all.drop (i + 1)) e) (FlP X.K cl W E),
          fun σ' H' n => ⟨_, by omega, n⟩, fun v H3 y => ?_⟩
        obtain ⟨g3, S3, d, hd, r⟩ := j2 v H3 y
        rw [hx] at hd
        cases hd
        cases eb : bindT tgp x e2 with
        | none => exact (Run.of_no k2 (by unfold forL; rw [if_pos c]; simp only [eb])).elim
        | some e3 =>
          refine ⟨b2, t2, e2, x, e3, S3, N2.mono g3, r, eb, fun σ4 N4 => ⟨b2, t2, e3, S3, N4, ?_⟩⟩
          have k3 : Run X.K cl F0 b2 t2 H3 (bnd (cb e3) (fun fl => match fl with
            | .nx e2 => forL w all tgp cb (all.drop (i + 1)) e2
            | .ct e2 => forL w all tgp cb (all.drop (i + 1)) e2
            | .bk e2 => ret (.nx e2)
            | .rt d => ret (.rt d)
            | .ex c fs e2 => ret (.ex c fs e2))) (FlP X.K cl W E) := by
            have k3 := Run.up g3 k2
            unfold Run at k3 ⊢
            unfold forL at k3
            rw [if_pos c] at k3
            simp only [eb] at k3
            exact k3
          refine (Run.bnd k3).imp fun fl b5 t5 H5 g5 S5 k5 => ?_
          cases fl with
          | nx e' => exact fun σ' N' => ⟨rfl, hlt, b5, t5, e', (g2.trans g3).trans g5, S5, N', k5⟩
          | ct e' => exact fun σ' N' => ⟨rfl, hlt, b5, t5, e', (g2.trans g3).trans g5, S5, N', k5⟩
          | bk e' => exact fun σ' N' => (Run.now S5 (W := F0) (a := Fl.nx e') (P := FlP X.K cl W E) k5) σ' N'
          | rt d => exact (Run.now S5 (W := F0) (a := Fl.rt d) (P := FlP X.K cl W E) k5)
          | ex c fs e' => exact (Run.now S5 (W := F0) (a := Fl.ex c fs e') (P := FlP X.K cl W E) k5)
      · exact (Run.of_no k2 (by unfold forL; rw [if_neg c])).elim
theorem ss_while {body : List Stmt} (hp : PassesOwn (model X.prog X.w) X.A X.env X.xe) (hc : ST X cl W e ct) (hb : SSs X cl W body cb) : SS X cl W (.While e body [] pos) (sWhile ct cb) := PS.imp (ps_while hp hc hb) fun E σ H ⟨bs, s, e, S, N, h⟩ => by
  refine ⟨fun m σ H => ∃ bs s e, StR X.K cl bs s H ∧ EnR X.K bs H e σ ∧ Run X.K cl F0 bs s H (whileN ct cb m e) (FlP X.K cl W E), ⟨turnsMost, bs, s, e, S, N, h⟩, ?_⟩
  rintro m σ1 H1 ⟨b1, t1, e1, S1, N1, k1⟩
  cases m with
  | zero => exact k1.elim
  | succ n =>
    refine ⟨b1, t1, e1, S1, N1, (Run.lft N1 k1).imp fun c b2 t2 H2 g2 S2 k2 => ?_⟩
    have N2 := N1.mono g2
    cases c with
    | false =>
      show E.nx σ1 H2
      exact (Run.now S2 (W := F0) (a := Fl.nx e1) (P := FlP X.K cl W E) k2) σ1 N2
    | true =>
      refine ⟨fun σ' H' => ∃ bs s e, StR X.K cl bs s H' ∧ EnR X.K bs H' e σ' ∧ Run X.K cl F0 bs s H' (whileN ct cb n e) (FlP X.K cl W E), fun σ' H' q => ⟨n, Nat.lt_succ_self n, q⟩, b2, t2, e1, S2, N2, (Run.bnd k2).imp fun fl b5 t5 H5 g5 S5 k5 => ?_⟩
      cases fl with
      | nx e' => exact fun σ' N' => ⟨b5, t5, e', S5, N', k5⟩
      | ct e' => exact fun σ' N' => ⟨b5, t5, e', S5, N', k5⟩
      | bk e' => exact fun σ' N' => (Run.now S5 (W := F0) (a := Fl.nx e') (P := FlP X.K cl W E) k5) σ' N'
      | rt d => exact (Run.now S5 (W := F0) (a := Fl.rt d) (P := FlP X.K cl W E) k5)
      | ex c fs e' => exact (Run.now S5 (W := F0) (a := Fl.ex c fs e') (P := FlP X.K cl W E) k5)

/-! ### comprehensions -/
theorem Run.pur {K : PySem.W.Frag} {W : Value → Option Addr → Hp → Prop} {α : Type} {bs : List Addr} {s : Sto} {H : Hp} {m : Cm α} {P : α → List Addr → Sto → Hp → Prop} (h : Run K cl W bs s H (pur m) P) : Run K cl F0 bs s H m P := by
  unfold Run G.pur at *
  cases q : m s with
  | ok a t => rw [q] at h; exact h
  | ex c fs t => rw [q] at h; exact h.elim
  | no => rw [q] at h; exact h
/-- a run from the heap without D, seen from the heap with it -/
theorem Run.besides {K : PySem.W.Frag} {α : Type} {bs : List Addr} {s : Sto} {H : Hp} {m : Cm α} {P : α → List Addr → Sto → Hp → Prop} {p : Addr} {xs : List V} (hp : H p = some (.lst xs)) (n : p ∉ bs)
    (h : Run K cl F0 bs s (rm p H) m P) : Run K cl F0 bs s H m (fun a bs' t H' => H' p = some (.lst xs) ∧ p ∉ bs' ∧ P a bs' t (rm p H')) := by
  unfold Run at *
  cases q : m s with
  | ok a t =>
    rw [q] at h
    intro b1 H1 g1 S1
    obtain ⟨k1, k2⟩ := g1.keep p _ hp n
    exact ⟨k1, k2, h b1 (rm p H1) g1.rm (S1.rm k1 k2)⟩
  | ex c fs t =>
    rw [q] at h
    intro b1 H1 u dx g1 S1 X1
    obtain ⟨k1, k2⟩ := g1.keep p _ hp n
    refine h b1 (rm p H1) u dx g1.rm (S1.rm k1 k2) ⟨X1.1, fun z => ?_⟩
    obtain ⟨a, gs, e1, e2, e3, e4⟩ := X1.2 z
    refine ⟨a, gs, e1, e2, ?_, paired_up (fun x y r => ⟨r.1, r.2.upI (im_rm k1)⟩) e4⟩
    rw [rm_ne (fun z => ?_)]
    · exact e3
    · subst z; rw [k1] at e3; cases e3
  | no => rw [q] at h; exact h
theorem wipe_set {σ : L2.St} {i : Nat} {x : Option V} : ∀ {vs : List Nat}, (i ∈ vs → wipe (σ.set i x) vs = wipe σ vs) ∧ (i ∉ vs → wipe (σ.set i x) vs = (wipe σ vs).set i x)
  | [] => ⟨fun h => by simp at h, fun _ => rfl⟩
  | v :: vs => by
    obtain ⟨h1, h2⟩ := @wipe_set σ i x vs
    unfold L2.wipe
    refine ⟨fun h => ?_, fun h => ?_⟩
    · by_cases q : i ∈ vs
      · rw [h1 q]
      · rw [h2 q]
        have e : i = v := by
          rcases List.mem_cons.mp h with e | e
          · exact e
          · exact absurd e q
        subst e
        rw [List.set_set]
    · have n1 : i ≠ v := fun e => h (by rw [e]; exact List.mem_cons_self)
      rw [h2 fun z => h (List.mem_cons_of_mem _ z), List.set_comm _ _ n1]
/-- a comprehension's target: it stores at vs alone -/
def CG (K : PySem.W.Frag) (cl : Str → Addr) (vs : List Nat) (tgp : Tg) (g : TG) : Prop := ∀ bs s e d e' v σ H Q, StR K cl bs s H → EnR K bs H e σ → Rp K bs H d v → bindT tgp d e = some e' → (∀ σ', EnR K bs H e' σ' → wipe σ' vs = wipe σ vs → Q σ' H) → g v σ H Q
theorem cg_name {K : PySem.W.Frag} {vs : List Nat} {i : Nat} (h : i ∈ vs) : CG K cl vs (.v i) (gName i) := fun bs s e d e' v σ H Q S N r e1 k => by
  cases e1
  exact k _ (N.set i r) (wipe_set.1 h)
theorem stAll_two {e e' : En} {i j : Nat} {ds : List D} (h : stAll e [i, j] ds = some e') : ∃ a b, ds = [a, b] ∧ e' = st (st e i (some a)) j (some b) := by
  cases ds with
  | nil => cases h
  | cons a ds =>
    cases ds with
    | nil => cases h
    | cons b ds =>
      cases ds with
      | nil => cases h; exact ⟨a, b, rfl, rfl⟩
      | cons c ds => cases h
theorem cg_two {K : PySem.W.Frag} {vs : List Nat} {i j : Nat} (h : i ∈ vs) (h' : j ∈ vs) : CG K cl vs (.t [i, j]) (gTup K 2 (gCons (gName i) (gCons (gName j) gNil))) := fun bs s e d e' v σ H Q S N r e1 k => by
  cases d with
  | tup ds =>
    obtain ⟨a, b, rfl, rfl⟩ := stAll_two (show stAll e [i, j] ds = some e' from e1)
    cases r with
    | @tup _ p us q1 q2 =>
      obtain ⟨x, y, rfl, r1, r2⟩ := q2.two
      refine ⟨p, [x, y], rfl, sqT_mono (fun a o e => (hid_some e).2) q1, rfl, x, [y], rfl, y, [], rfl, rfl, ?_⟩
      exact k _ ((N.set i r1).set j r2) (by rw [wipe_set.1 h', wipe_set.1 h])
  | _ => cases e1
theorem upd_eq_of {H : Hp} {p : Addr} {o : HO} (h : H p = some o) : upd (rm p H) p o = H := by
  funext a
  by_cases q : a = p
  · subst q; rw [upd_same, h]
  · rw [upd_ne q, rm_ne q]
theorem upd_rm {H : Hp} {p : Addr} {o : HO} : upd (rm p H) p o = upd H p o := by
  funext a
  by_cases q : a = p
  · subst q; rw [upd_same, upd_same]
  · rw [upd_ne q, upd_ne q, rm_ne q]
theorem bnd_assoc {α β γ : Type} (m : Cm α) (f : α → Cm β) (g : β → Cm γ) : bnd (bnd m f) g = bnd m fun a => bnd (f a) g := by
  funext s
  unfold G.bnd
  cases m s <;> rfl
theorem bnd_at {α β : Type} {m m' : Cm α} {f : α → Cm β} {s : Sto} (h : m s = m' s) : bnd m f s = bnd m' f s := by
  unfold G.bnd
  rw [h]
theorem lcL_cons {w : Src} {all : List D} {tt : CT} {te : CE} {e e' : En} {x : D} {r : List D} {s : Sto} (c : w.items s = some all) (eb : bindT tgp x e = some e') :
    lcL w all tgp tt te e (x :: r) s = bnd (pur (tt e')) (fun b => if b = true then bnd (pur (te e')) (fun y => bnd (lcL w all tgp tt te e r) fun ys => ret (y :: ys)) else lcL w all tgp tt te e r) s := by
  conv => lhs; unfold lcL
  simp only [if_pos c, eb]
theorem bnd_ret {α : Type} (m : Cm α) : bnd m (fun a => ret a) = m := by
  funext s
  unfold G.bnd
  cases m s <;> rfl
theorem tLc_of {K : PySem.W.Frag} {g : TG} {tt : CT} {te : CE} {vs : List Nat} {σ : L2.St} {H : Hp} {Q : VK} (cg : CG K cl vs tgp g) (h : TLof K cl W (cLcA ci tgp vs tt te) σ H Q) :
    tLc (TIof K cl W ci) g (TTof K cl W0 tt) (TEof K cl W0 te) vs σ H Q := by
  obtain ⟨bs, s, e, S, N, h⟩ := h
  refine ⟨bs, s, e, S, N, (Run.bnd h).imp fun w b1 t1 H1 g1 S1 k J hJ p hp => ?_⟩
  cases q : w.items t1 with
  | none => exact (Run.of_no k (by simp only [q])).elim
  | some all =>
    by_cases hb : all.length ≤ big
    rotate_left
    · exact (Run.of_no k (by simp only [q]; rw [if_neg hb])).elim
    have k : Run K cl (fun u dx H' => W u dx σ H') b1 t1 H1 (bnd (lcL w all tgp tt te (wipeE e vs) all) (fun ys => ret ys)) (fun ds bs' _ H' => ∀ p vs, H' p = none → RpL K bs' H' ds vs → Q (.ref p) (upd H' p (.lst vs))) := by
      unfold Run at k ⊢
      simp only [q] at k
      rw [if_pos hb] at k
      rw [bnd_ret]
      exact k
    have N1 : EnR K b1 H1 (wipeE e vs) (L2.wipe σ vs) := (N.mono g1).wipe vs
    -- the turns
    refine ⟨fun i m H2 => m = all.length - i ∧ i ≤ all.length ∧ ∃ bs s acc accV, H2 p = some (.lst accV) ∧ acc.length ≤ i ∧ p ∉ bs ∧ Gr b1 H1 bs (rm p H2) ∧ StR K cl bs s (rm p H2) ∧ RpL K bs (rm p H2) acc accV ∧
        Run K cl (fun u dx H' => W u dx σ H') bs s (rm p H2) (bnd (lcL w all tgp tt te (wipeE e vs) (all.drop i)) (fun ys => ret (acc ++ ys))) (fun ds bs' _ H' => ∀ p vs, H' p = none → RpL K bs' H' ds vs → Q (.ref p) (upd H' p (.lst vs))),
      ⟨_, rfl, Nat.zero_le _, b1, t1, [], [], upd_same, Nat.zero_le _, S1.fresh hp, ?_, ?_, .nil, ?_⟩, ?_⟩
    · rw [rm_upd hp]; exact Gr.refl _ _
    · rw [rm_upd hp]; exact S1
    · rw [rm_upd hp]; exact k
    rintro i m H2 ⟨rfl, hi, b2, t2, acc, accV, hD, hal, nD, g2, S2, R2, k2⟩
    have S2' : StR K cl b2 t2 H2 := S2.unrm
    have hH2 : Gr b1 H1 b2 H2 := ⟨g2.pre, (fun a o h n => by
      obtain ⟨h1, h2⟩ := g2.keep a o h n
      refine ⟨?_, h2⟩
      rw [rm_ne (fun z => ?_)] at h1
      · exact h1
      · subst z; rw [rm_same] at h1; cases h1), fun a ob x h => by
      have h1 := g2.fz a ob x h
      rw [rm_ne (fun z => ?_)] at h1
      · exact h1
      · subst z; rw [rm_same] at h1; cases h1⟩
    rcases drop_cases all i hi with ⟨z, hz⟩ | ⟨x, z, hx, hlt⟩
    · rw [z] at k2
      by_cases c : w.items t2 = some all
      · refine .inl ⟨(hJ b2 t2 H2 all hH2 S2' c i).2 (by omega), ?_⟩
        have k3 := Run.of_ok k2 (a := acc ++ []) (t := t2) (by unfold G.bnd lcL; simp only [if_pos c]; rfl) b2 _ (Gr.refl _ _) S2
        rw [List.append_nil] at k3
        have e1 : upd (rm p H2) p (.lst accV) = H2 := upd_eq_of hD
        have k4 := k3 p accV rm_same R2
        rw [e1] at k4
        exact k4
      · exact (Run.of_no k2 (by unfold G.bnd lcL; simp only [if_neg c])).elim
    · rw [z] at k2
      by_cases c : w.items t2 = some all
      · obtain ⟨j1, j2⟩ := (hJ b2 t2 H2 all hH2 S2' c i).1 hlt
        refine .inr ⟨j1, fun H' => all.length - (i + 1) = all.length - (i + 1) ∧ i + 1 ≤ all.length ∧ ∃ bs s acc accV, H' p = some (.lst accV) ∧ acc.length ≤ i + 1 ∧ p ∉ bs ∧ Gr b1 H1 bs (rm p H') ∧ StR K cl bs s (rm p H') ∧ RpL K bs (rm p H') acc accV ∧
          Run K cl (fun u dx H' => W u dx σ H') bs s (rm p H') (bnd (lcL w all tgp tt te (wipeE e vs) (all.drop (i + 1))) (fun ys => ret (acc ++ ys))) (fun ds bs' _ H' => ∀ p vs, H' p = none → RpL K bs' H' ds vs → Q (.ref p) (upd H' p (.lst vs))), fun H' n => ⟨_, by omega, n⟩, fun v H3 y => ?_⟩
        obtain ⟨g3, S3, d, hd, r⟩ := j2 v H3 y
        rw [hx] at hd
        cases hd
        obtain ⟨hD3, nD3⟩ := g3.keep p _ hD nD
        cases eb : bindT tgp x (wipeE e vs) with
        | none => exact (Run.of_no k2 (by unfold G.bnd lcL; simp only [if_pos c, eb])).elim
        | some e3 =>
          have N3 : EnR K b2 H3 (wipeE e vs) (L2.wipe σ vs) := (N1.mono hH2).mono g3
          refine cg b2 t2 (wipeE e vs) x e3 v _ H3 _ S3 N3 r eb fun σ4 N4 hw => ?_
          have ww : wipe (wipe σ vs) vs = wipe σ vs := by
            have : ∀ (us : List Nat) (σ' : L2.St), (∀ i ∈ us, σ'[i]? = some none ∨ σ'.length ≤ i) → wipe σ' us = σ' := by
              intro us
              induction us with
              | nil => intro σ' _; rfl
              | cons u us ih =>
                intro σ' h
                unfold L2.wipe
                rw [ih σ' fun i hi => h i (List.mem_cons_of_mem _ hi)]
                apply List.ext_getElem?
                intro n
                by_cases hn : n = u
                · subst hn
                  rcases h n List.mem_cons_self with h | h
                  · rw [List.getElem?_set_self (List.getElem?_eq_some_iff.mp h).1, h]
                  · rw [List.getElem?_eq_none (by simpa using h), List.getElem?_eq_none h]
                · rw [List.getElem?_set_ne (Ne.symm hn)]
            apply this
            intro i hi
            have : ∀ (us : List Nat), i ∈ us → (wipe σ us)[i]? = some none ∨ (wipe σ us).length ≤ i := by
              intro us
              induction us with
              | nil => intro h; simp at h
              | cons u us ih =>
                intro h
                unfold L2.wipe
                by_cases hu : u = i
                · subst hu
                  by_cases hl : u < (wipe σ us).length
                  · exact .inl (List.getElem?_set_self hl)
                  · exact .inr (by rw [List.length_set]; omega)
                · rw [List.getElem?_set_ne hu, List.length_set]
                  refine ih ?_
                  rcases List.mem_cons.mp h with h | h
                  · exact absurd h.symm hu
                  · exact h
            exact this vs hi
          refine ⟨hw.trans ww, ?_⟩
          -- the test, from the heap without D
          have k3 : Run K cl (fun u dx H' => W u dx σ H') b2 t2 (rm p H3) (bnd (pur (tt e3)) (fun b => bnd (if b = true then bnd (pur (te e3)) (fun y => bnd (lcL w all tgp tt te (wipeE e vs) (all.drop (i + 1))) fun ys => ret (y :: ys)) else lcL w all tgp tt te (wipeE e vs) (all.drop (i + 1))) (fun ys => ret (acc ++ ys)))) (fun ds bs' _ H' => ∀ p vs, H' p = none → RpL K bs' H' ds vs → Q (.ref p) (upd H' p (.lst vs))) := by
            have k3 := Run.up g3.rm k2
            have e4 : bnd (lcL w all tgp tt te (wipeE e vs) (x :: all.drop (i + 1))) (fun ys => ret (acc ++ ys)) t2 = bnd (pur (tt e3)) (fun b => bnd (if b = true then bnd (pur (te e3)) (fun y => bnd (lcL w all tgp tt te (wipeE e vs) (all.drop (i + 1))) fun ys => ret (y :: ys)) else lcL w all tgp tt te (wipeE e vs) (all.drop (i + 1))) (fun ys => ret (acc ++ ys))) t2 := by
              rw [bnd_at (lcL_cons c eb), bnd_assoc]
            unfold Run at k3 ⊢
            rw [e4] at k3
            exact k3
          refine ⟨b2, t2, e3, S3, N4, (Run.besides hD3 nD3 (Run.pur (Run.bnd k3))).imp fun b b4 t4 H4 g4 S4 k4 => ?_⟩
          obtain ⟨hD4, nD4, k4⟩ := k4
          have R4 : RpL K b4 (rm p H4) acc accV := (R2.mono g3.rm).mono g4.rm
          have G4 : Gr b1 H1 b4 (rm p H4) := (g2.trans g3.rm).trans g4.rm
          cases b with
          | false =>
            have k4' : Run K cl (fun u dx H' => W u dx σ H') b4 t4 (rm p H4) (bnd (lcL w all tgp tt te (wipeE e vs) (all.drop (i + 1))) (fun ys => ret (acc ++ ys))) (fun ds bs' _ H' => ∀ p vs, H' p = none → RpL K bs' H' ds vs → Q (.ref p) (upd H' p (.lst vs))) := k4
            exact ⟨rfl, hlt, b4, t4, acc, accV, hD4, by omega, nD4, G4, S4.rm hD4 nD4, R4, k4'⟩
          | true =>
            have k4' : Run K cl (fun u dx H' => W u dx σ H') b4 t4 (rm p H4) (bnd (pur (te e3)) (fun y => bnd (lcL w all tgp tt te (wipeE e vs) (all.drop (i + 1))) (fun ys => ret (acc ++ (y :: ys))))) (fun ds bs' _ H' => ∀ p vs, H' p = none → RpL K bs' H' ds vs → Q (.ref p) (upd H' p (.lst vs))) := by
              have e4 : bnd (bnd (pur (te e3)) (fun y => bnd (lcL w all tgp tt te (wipeE e vs) (all.drop (i + 1))) fun ys => ret (y :: ys))) (fun ys => ret (acc ++ ys)) t4 = bnd (pur (te e3)) (fun y => bnd (lcL w all tgp tt te (wipeE e vs) (all.drop (i + 1))) (fun ys => ret (acc ++ (y :: ys)))) t4 := by
                unfold G.bnd
                cases pur (te e3) t4 with
                | ok a t => simp only; cases lcL w all tgp tt te (wipeE e vs) (all.drop (i + 1)) t <;> rfl
                | ex c fs t => rfl
                | no => rfl
              have k4 : Run K cl (fun u dx H' => W u dx σ H') b4 t4 (rm p H4) (bnd (bnd (pur (te e3)) (fun y => bnd (lcL w all tgp tt te (wipeE e vs) (all.drop (i + 1))) fun ys => ret (y :: ys))) (fun ys => ret (acc ++ ys))) (fun ds bs' _ H' => ∀ p vs, H' p = none → RpL K bs' H' ds vs → Q (.ref p) (upd H' p (.lst vs))) := k4
              unfold Run at k4 ⊢
              rw [e4] at k4
              exact k4
            refine ⟨b4, t4, e3, S4, N4.mono g4, (Run.besides hD4 nD4 (Run.pur (Run.bnd k4'))).imp fun yd b5 t5 H5 g5 S5 k5 yv ry => ?_⟩
            obtain ⟨hD5, nD5, k5⟩ := k5
            have R5 := R4.mono g5.rm
            refine ⟨accV, hD5, ?_, rfl, hlt, b5, t5, acc ++ [yd], accV ++ [yv], upd_same, ?_, nD5, ?_, ?_, ?_, ?_⟩
            · rw [← R5.length]; exact big_lt (by omega)
            · simp only [List.length_append, List.length_singleton]; omega
            · rw [rm_upd']; exact G4.trans g5.rm
            · rw [rm_upd']; exact S5.rm hD5 nD5
            · rw [rm_upd']; exact R5.append (.cons (ry.upI (im_rm hD5)) .nil)
            · rw [rm_upd']
              simp only [List.append_assoc, List.singleton_append]
              exact k5
      · exact (Run.of_no k2 (by unfold G.bnd lcL; simp only [if_neg c])).elim
theorem s_lc {elt iter : Expr} {ifs : List Expr} {scope : Scope} {own : List (Str × Nat)} {g : TG} {tt : CT} {te : CE} {vs : List Nat} (hc : X.calm = true) (hN : X.N.Nodup) (hi : SI X cl W tg iter ci) (ok : BlkOk X.N X.env.scope scope own) (hv : own.map (·.2) = vs) (cg : CG X.K cl vs tgp g)
    (hg : ∀ (s : Shared) (H : Hp) (C : Addr) (cc : List (Str × Addr)) (fp : List Addr), PG (X.blk s H scope (compEnvC scope cc C X.env) fp) tg g)
    (ht : ∀ (s : Shared) (H : Hp) (C : Addr) (cc : List (Str × Addr)) (fp : List Addr), PTs (X.blk s H scope (compEnvC scope cc C X.env) fp) ifs (TTof X.K cl W0 tt))
    (he : ∀ (s : Shared) (H : Hp) (C : Addr) (cc : List (Str × Addr)) (fp : List Addr), SE (X.blk s H scope (compEnvC scope cc C X.env) fp) cl W0 elt te) (hs : ∀ x, foldedSetIterable iter X.env x = pure x := by intro _; rfl) :
    SE X cl W (.ListComp elt [⟨tg, iter, ifs, 0⟩] scope pos) (cLc ci tgp vs tt te) := by
  subst hv
  exact PE.imp (pe_lc (te := TEof X.K cl W0 te) hc hN hi ok hg ht he hs) fun σ H Q h => tLc_of cg (tNew_of h)
theorem l_lc {elt iter : Expr} {ifs : List Expr} {scope : Scope} {own : List (Str × Nat)} {g : TG} {tt : CT} {te : CE} {vs : List Nat} (hc : X.calm = true) (hN : X.N.Nodup) (hi : SI X cl W tg iter ci) (ok : BlkOk X.N X.env.scope scope own) (hv : own.map (·.2) = vs) (cg : CG X.K cl vs tgp g)
    (hg : ∀ (s : Shared) (H : Hp) (C : Addr) (cc : List (Str × Addr)) (fp : List Addr), PG (X.blk s H scope (compEnvC scope cc C X.env) fp) tg g)
    (ht : ∀ (s : Shared) (H : Hp) (C : Addr) (cc : List (Str × Addr)) (fp : List Addr), PTs (X.blk s H scope (compEnvC scope cc C X.env) fp) ifs (TTof X.K cl W0 tt))
    (he : ∀ (s : Shared) (H : Hp) (C : Addr) (cc : List (Str × Addr)) (fp : List Addr), SE (X.blk s H scope (compEnvC scope cc C X.env) fp) cl W0 elt te) (hs : ∀ x, foldedSetIterable iter X.env x = pure x := by intro _; rfl) :
    SL X cl W (.ListComp elt [⟨tg, iter, ifs, 0⟩] scope pos) (cLcA ci tgp vs tt te) := by
  subst hv
  exact PE.imp (pe_lc (te := TEof X.K cl W0 te) hc hN hi ok hg ht he hs) fun σ H Q h => tLc_of cg h
theorem ts_nil : PTs X [] (TTof X.K cl W tYesD) := ⟨fun pins s σ H Q I ⟨bs, t, e, S, N, h⟩ => pts_nil.run pins s σ H Q I (Run.now S h)⟩
theorem ts_one {c : Expr} (h : ST X cl W c ct) : PTs X [c] (TTof X.K cl W ct) := pts_one h
/-- name = [..] on one line -/
theorem ss_setLc {i : Nat} {y : Str} {py : Pos} {elt iter : Expr} {ifs : List Expr} {scope : Scope} {own : List (Str × Nat)} {spos : Pos} {g : TG} {tt : CT} {te : CE} {vs : List Nat} (hc : X.calm = true) (hN : X.N.Nodup) (hy : X.N[i]? = some y) (hyl : X.env.scope.names.lookup y = some .local)
    (hsw : swapsWith (.ListComp elt [⟨tg, iter, ifs, 0⟩] scope pos) (some (.Name y py)) spos.line X.env = pure true) (hi : SI X cl W tg iter ci) (ok : BlkOk X.N X.env.scope scope own) (hv : own.map (·.2) = vs) (cg : CG X.K cl vs tgp g)
    (hg : ∀ (s : Shared) (H : Hp) (C : Addr) (cc : List (Str × Addr)) (fp : List Addr), PG (X.blk s H scope (compEnvC scope cc C X.env) fp) tg g)
    (ht : ∀ (s : Shared) (H : Hp) (C : Addr) (cc : List (Str × Addr)) (fp : List Addr), PTs (X.blk s H scope (compEnvC scope cc C X.env) fp) ifs (TTof X.K cl W0 tt))
    (he : ∀ (s : Shared) (H : Hp) (C : Addr) (cc : List (Str × Addr)) (fp : List Addr), SE (X.blk s H scope (compEnvC scope cc C X.env) fp) cl W0 elt te) (hs : ∀ x, foldedSetIterable iter X.env x = pure x := by intro _; rfl) :
    SS X cl W (.Assign [.Name y py] (.ListComp elt [⟨tg, iter, ifs, 0⟩] scope pos) spos) (sSet i (cLc ci tgp vs tt te)) := by
  subst hv
  exact PS.imp (ps_setLc (te := TEof X.K cl W0 te) hc hN hy hyl hsw hi ok hg ht he hs) fun E σ H ⟨bs, s, e, S, N, h⟩ => tLc_of cg (tNew_of ⟨bs, s, e, S, N, (Run.lft N h).imp fun d b1 t1 H1 g1 S1 k v r => (Run.now S1 (a := Fl.nx _) (P := FlP X.K cl W E) k) _ ((N.mono g1).set i r)⟩)

/-! ### methods of lists -/
def MeS (K : PySem.W.Frag) (cl : Str → Addr) (f : D → List D → Cm D) (r : V → List V → Hp → VK → Prop) : Prop :=
  ∀ (W : Value → Option Addr → Hp → Prop) bs s H x ds v vs (Q : VK), StR K cl bs s H → Rp K bs H x v → RpL K bs H ds vs → Run K cl W bs s H (f x ds) (fun d bs' _ H' => ∀ v, Rp K bs' H' d v → Q v H') → r v vs H Q
theorem chkL_ok {K : PySem.W.Frag} {W : Value → Option Addr → Hp → Prop} {bs : List Addr} {s : Sto} {H : Hp} {x : D} {v : V} {α : Type} {k : Cm α} {P : α → List Addr → Sto → Hp → Prop} (S : StR K cl bs s H) (r : Rp K bs H x v) (h : Run K cl W bs s H (bnd (chkL x) fun _ => k) P) :
    tyV K "list" v H ∧ Run K cl W bs s H k P := by
  cases x with
  | box j =>
    cases q : lAt s j with
    | none => exact (Run.of_no h (by unfold G.bnd chkL; simp only [q])).elim
    | some ds =>
      obtain ⟨p, vs, rfl, _, e2, e3⟩ := S.lst q r
      refine ⟨.inl ⟨rfl, vs, SqL.of e2⟩, ?_⟩
      have e : bnd (chkL (.box j)) (fun _ => k) s = k s := by unfold G.bnd chkL; simp only [q]
      unfold Run at h ⊢
      rw [e] at h
      exact h
  | _ => exact (show False from h).elim
theorem tBM_of {K : PySem.W.Frag} {co : CE} {aa : CA} {f : D → List D → Cm D} {r : V → List V → Hp → VK → Prop} {σ : L2.St} {H : Hp} {Q : VK} (hf : MeS K cl f r) (h : TEof K cl W (cBmL f co aa) σ H Q) : tBM K "list" r (TEof K cl W co) (TAof K cl W aa) σ H Q := by
  obtain ⟨bs, s, e, S, N, h⟩ := h
  refine ⟨bs, s, e, S, N, (Run.bnd h).imp fun x b1 t1 H1 g1 S1 h1 v r1 => ?_⟩
  obtain ⟨ty, h1⟩ := chkL_ok S1 r1 h1
  exact ⟨ty, b1, t1, e, S1, N.mono g1, (Run.bnd h1).imp fun ds b2 t2 H2 g2 S2 h2 vs r2 => hf _ b2 t2 H2 x ds v vs Q S2 (r1.mono g2) r2 h2⟩
theorem tBM0_of {K : PySem.W.Frag} {co : CE} {f : D → List D → Cm D} {r : V → List V → Hp → VK → Prop} {σ : L2.St} {H : Hp} {Q : VK} (hf : MeS K cl f r) (h : TEof K cl W (cBmL f co aNil) σ H Q) : tBM0 K "list" r (TEof K cl W co) σ H Q := by
  obtain ⟨bs, s, e, S, N, h⟩ := h
  refine ⟨bs, s, e, S, N, (Run.bnd h).imp fun x b1 t1 H1 g1 S1 h1 v r1 => ?_⟩
  obtain ⟨ty, h1⟩ := chkL_ok S1 r1 h1
  exact ⟨ty, hf _ b1 t1 H1 x [] v [] Q S1 r1 .nil (Run.now S1 (Run.bnd h1))⟩
theorem me_app {K : PySem.W.Frag} : MeS K cl dApp rAppend := by
  intro W bs s H x ds v vs Q S r rs h
  unfold dApp at h
  split at h
  · rename_i j y
    obtain ⟨w, rfl, r2⟩ := rs.one
    cases q : lAt s j with
    | none => exact (Run.of_no h (by simp only [q])).elim
    | some xs =>
      obtain ⟨p, us, e1, hp, e2, e3⟩ := S.lst q r
      by_cases c : xs.length < big
      · refine ⟨p, us, w, e1, rfl, e2, ?_, ?_⟩
        · rw [← e3.length]; exact big_lt c
        · exact Run.of_ok h (a := .non) (t := s.set j (.lst (xs ++ [y]))) (by simp only [q]; rw [if_pos c]) bs _ (gr_write hp e2) (S.write hp e2 (m := .lst (xs ++ [y])) (o := .lst (us ++ [w])) (e3.append (.cons r2 .nil))) _ .non
      · exact (Run.of_no h (by simp only [q]; rw [if_neg c])).elim
  · exact h.elim
theorem me_ext {K : PySem.W.Frag} : MeS K cl dExt rExtend := by
  intro W bs s H x ds v vs Q S r rs h
  unfold dExt at h
  split at h
  · rename_i j k
    obtain ⟨w, rfl, r2⟩ := rs.one
    cases q : lAt s j with
    | none => exact (Run.of_no h (by simp only [q])).elim
    | some xs =>
      cases q2 : lAt s k with
      | none => exact (Run.of_no h (by simp only [q, q2])).elim
      | some ys =>
        obtain ⟨p, us, e1, hp, e2, e3⟩ := S.lst q r
        obtain ⟨p', us', e1', hp', e2', e3'⟩ := S.lst q2 r2
        by_cases c : xs.length + ys.length ≤ big
        · refine ⟨p, p', us, us', e1, by rw [e1'], e2, e2', ?_, ?_⟩
          · rw [← e3.length, ← e3'.length]; exact big_line c
          · exact Run.of_ok h (a := .non) (t := s.set j (.lst (xs ++ ys))) (by simp only [q, q2]; rw [if_pos c]) bs _ (gr_write hp e2) (S.write hp e2 (m := .lst (xs ++ ys)) (o := .lst (us ++ us')) (e3.append e3')) _ .non
        · exact (Run.of_no h (by simp only [q, q2]; rw [if_neg c])).elim
  · exact h.elim
theorem me_clear {K : PySem.W.Frag} : MeS K cl dClear rClear := by
  intro W bs s H x ds v vs Q S r rs h
  unfold dClear at h
  split at h
  · rename_i j
    cases rs
    cases q : lAt s j with
    | none => exact (Run.of_no h (by simp only [q])).elim
    | some xs =>
      obtain ⟨p, us, e1, hp, e2, e3⟩ := S.lst q r
      exact ⟨p, us, e1, rfl, e2, Run.of_ok h (a := .non) (t := s.set j (.lst [])) (by simp only [q]) bs _ (gr_write hp e2) (S.write hp e2 (m := .lst []) (o := .lst []) .nil) _ .non⟩
  · exact h.elim
section
variable {o a : Expr} {es : List Expr} {co : CE} {aa : CA} {apos cpos : Pos}
theorem s_app (ho : SE X cl W o co) (ha : SA X cl W (a :: es) aa) (hbase : attributeBase o "append" X.env (eval o X.env) = eval o X.env := by rfl)
    (hfew : ((backTo cpos (starEach (a :: es) X.env)).all (fun x => !x.1) && (backToKw cpos (keywordEach [] X.env)).all (fun x => x.1.isSome)
      && decide ((a :: es).length + ([] : List Keyword).length + (if ([] : List Keyword).isEmpty then 0 else 1) < 30)) = true := by rfl)
    (hline : (apos.endLine == cpos.line) = true := by rfl) (hs : starEach (a :: es) X.env = (false, eval a X.env) :: starEach es X.env := by rfl) (hplain : (backTo cpos (starEach es X.env)).any (·.1) = false := by rfl) : SE X cl W (.Call (.Attribute o "append" apos) (a :: es) [] cpos) (cBmL dApp co aa) :=
  PE.imp (pe_bm PySem.F.plainAttrs_list PySem.F.slot_list_append PySem.F.type_list_append mt_append ho ha hbase hfew hline hs hplain) fun σ H Q h => tBM_of me_app h
theorem s_ext (ho : SE X cl W o co) (ha : SA X cl W (a :: es) aa) (hbase : attributeBase o "extend" X.env (eval o X.env) = eval o X.env := by rfl)
    (hfew : ((backTo cpos (starEach (a :: es) X.env)).all (fun x => !x.1) && (backToKw cpos (keywordEach [] X.env)).all (fun x => x.1.isSome)
      && decide ((a :: es).length + ([] : List Keyword).length + (if ([] : List Keyword).isEmpty then 0 else 1) < 30)) = true := by rfl)
    (hline : (apos.endLine == cpos.line) = true := by rfl) (hs : starEach (a :: es) X.env = (false, eval a X.env) :: starEach es X.env := by rfl) (hplain : (backTo cpos (starEach es X.env)).any (·.1) = false := by rfl) : SE X cl W (.Call (.Attribute o "extend" apos) (a :: es) [] cpos) (cBmL dExt co aa) :=
  PE.imp (pe_bm PySem.F.plainAttrs_list PySem.F.slot_list_extend PySem.F.type_list_extend mt_extend ho ha hbase hfew hline hs hplain) fun σ H Q h => tBM_of me_ext h
theorem s_clear (ho : SE X cl W o co) (hbase : attributeBase o "clear" X.env (eval o X.env) = eval o X.env := by rfl) (hline : (apos.endLine == cpos.line) = true := by rfl) : SE X cl W (.Call (.Attribute o "clear" apos) [] [] cpos) (cBmL dClear co aNil) :=
  PE.imp (pe_bm0 PySem.F.plainAttrs_list PySem.F.slot_list_clear PySem.F.type_list_clear mt_clear ho hbase hline) fun σ H Q h => tBM0_of me_clear h
end

/-! ### defs -/
/-- a def that raises nothing, in a world where none does -/
theorem fn_mk {Y : Wd} {x qual : Str} {st : Stmt} {f : Addr} {fd : FuncData} {N ps : List Str} {k n m : Nat} {c : CS} (hCX : Y.CX = CX0) (hF : Y.F = fun _ => F0) (F : Fun Y.K x qual st f fd) (S : FnScope N ps (defScope st))
    (hn : ps.length = n) (hN : N.length = m)
    (body : ∀ (cdv : Value) (A : Around) (outer : List PySem.Env) (s : Shared) (H : Hp) (E : XK), Room k (A.deeper (envOfC qual (defScope st) s.heap.objs.size f cdv)) →
      SSs (cxOf CX0 Y.P Y.w Y.K Y.mg Y.base N qual (defScope st) f cdv A outer s H E).nox Y.cl W0 (defBody st) c) : FnOk Y.P Y.w Y.K Y.mg Y.base Y.CX (k + 1) f fd ps (spOf Y.K Y.cl Y.F n (dfn n m c)) := by
  rw [hCX]
  refine F.ok S (fun vs H Q E h => by rw [spOf_len h, hn]) fun cdv A outer s H vs Q E hr h => ?_
  refine ⟨_, body cdv A outer s H E hr, ?_⟩
  obtain ⟨bs, t, ds, h1, S1, r1, h2⟩ := h
  rw [hF] at h2
  have e : dfn n m c ds = bnd (c (ds.map some ++ List.replicate (m - n) none)) (fun fl => match fl with
      | .nx _ => ret .non
      | .rt d => ret d
      | .ex c fs _ => fun s => .ex c fs s
      | .bk _ => noC
      | .ct _ => noC) := by
    unfold dfn
    rw [if_pos h1]
    all_goals rfl
  rw [e] at h2
  refine ⟨bs, t, _, S1, ⟨?_, fun i d q => ?_⟩, (Run.bnd h2).imp fun fl b1 t1 H1 g1 S2 k1 => ?_⟩
  · unfold L2.start
    simp only [List.length_append, List.length_map, List.length_replicate]
    rw [r1.length, hN, ← h1, r1.length]
  · unfold L2.start
    by_cases hi : i < ds.length
    · rw [List.getElem?_append_left (by simpa using hi), List.getElem?_map] at q
      cases e1 : ds[i]? with
      | none => rw [e1] at q; cases q
      | some d' =>
        rw [e1] at q
        obtain ⟨v, hv, rv⟩ := r1.get e1
        cases q
        exact ⟨v, by rw [List.getElem?_append_left (by rw [List.length_map, ← r1.length]; exact hi), List.getElem?_map, hv]; rfl, rv⟩
    · rw [List.getElem?_append_right (by simpa using hi)] at q
      have := List.mem_of_getElem? q
      rw [List.mem_replicate] at this
      cases this.2
  · cases fl with
    | nx e' => exact fun σ' N' => Run.now S2 k1 _ .non
    | rt d => exact fun v r => Run.now S2 k1 _ r
    | bk e' => exact (Run.of_no k1 rfl).elim
    | ct e' => exact (Run.of_no k1 rfl).elim
    | ex cn fs e' => exact fun σ' u dx N' X1 => (show Run Y.K Y.cl F0 b1 t1 H1 (fun s => .ex cn fs s) _ from k1) b1 H1 u dx (Gr.refl _ _) S2 X1
end
theorem df_mk {Y : Wd} {x qual : Str} {st : Stmt} {f : Addr} {fd : FuncData} {N ps : List Str} {k n m : Nat} {c : CS} (hCX : Y.CX = CX0) (hF : Y.F = fun _ => F0) (F : Fun Y.K x qual st f fd) (S : FnScope N ps (defScope st)) (hm : Y.mg x = some (.ref f)) (hb : Binds Y.K fd ps [])
    (hn : ps.length = n) (hN : N.length = m)
    (body : ∀ (cdv : Value) (A : Around) (outer : List PySem.Env) (s : Shared) (H : Hp) (E : XK), Room k (A.deeper (envOfC qual (defScope st) s.heap.objs.size f cdv)) →
      SSs (cxOf CX0 Y.P Y.w Y.K Y.mg Y.base N qual (defScope st) f cdv A outer s H E).nox Y.cl W0 (defBody st) c) : Df Y x (k + 1) n (dfn n m c) :=
  ⟨fun ds h s => by unfold dfn; rw [if_neg h]; rfl, f, fd, ps, hm, F.kp, hb, hn, fn_mk hCX hF F S hn hN body⟩
/-- the world of a law that raises nothing -/
abbrev wz (P : Program) (w : World) (K : PySem.W.Frag) (mg : Str → Option Value) (base : Heap) (cl : Str → Addr) : Wd := ⟨P, w, K, mg, base, CX0, cl, fun _ => F0⟩
structure Is (X : Cx) (P : Program) (w : World) (K : PySem.W.Frag) (mg : Str → Option Value) (base : Heap) : Prop where
  p : X.prog = P
  w : X.w = w
  K : X.K = K
  mg : X.mg = mg
  base : X.base = base
theorem Is.lets {X : Cx} {P : Program} {w : World} {K : PySem.W.Frag} {mg : Str → Option Value} {base : Heap} {cl : Str → Addr} (i : Is X P w K mg base) : Lets (wz P w K mg base cl) X W0 := ⟨i.p, i.w, i.K, i.mg, i.base, fun _ _ _ _ _ _ _ h => h.elim, fun _ _ _ _ h => h⟩
section
variable {X : Cx} {cl : Str → Addr} {P : Program} {w : World} {K : PySem.W.Frag} {mg : Str → Option Value} {base : Heap} {k n : Nat} {g : List D → Cm D} {x : Str} {e0 : Expr} {es : List Expr} {aa : CA} {p pos : Pos}
theorem z_call (d : Df (wz P w K mg base cl) x k n g) (i : Is X P w K mg base) (hr : Room k X.A) (hg : Gl X x) (ha : SA X cl W0 (e0 :: es) aa) (hdb : (x == ("__debug__" : Str)) = false := by decide)
    (he : starEach (e0 :: es) X.env = (false, eval e0 X.env) :: starEach es X.env := by rfl) (hpl : (backTo pos (starEach es X.env)).any (·.1) = false := by rfl) : SE X cl W0 (.Call (.Name x p) (e0 :: es) [] pos) (cCall g aa) := s_call d i.lets hr hg ha hdb he hpl
theorem z_call0 (d : Df (wz P w K mg base cl) x k 0 g) (i : Is X P w K mg base) (hr : Room k X.A) (hg : Gl X x) (hdb : (x == ("__debug__" : Str)) = false := by decide) : SE X cl W0 (.Call (.Name x p) [] [] pos) (cCall g aNil) := s_call0 d i.lets hr hg hdb
end
/-- the law's own call, from what the data level says of it -/
theorem law_sp {K : PySem.W.Frag} {cl : Str → Addr} {F : XK → XK} {g : List D → Cm D} {n : Nat} (h : ∀ ns : List Int, ns.length ≤ n → ∃ t, g [.lst (ns.map D.int)] [] = .ok (.bl true) t) {H : Hp} {a : Addr} {ns : List Int} (hl : ns.length ≤ n) (hO : Only H) (hS : SqL K H a (ns.map V.int)) :
    spOf K cl F 1 g [.ref a] H (fun v _ => v = .bl true) fun _ _ _ => False := by
  obtain ⟨t, e⟩ := h ns hl
  refine ⟨[], [], [.lst (ns.map D.int)], rfl, ⟨rfl, .nil, fun j m e => by simp at e⟩, .cons (.lst (vs := ns.map V.int) ?_ ?_) .nil, ?_⟩
  · rcases hS with (hS | ⟨o, hS⟩) | hS
    · rcases hO a with z | ⟨o, xs, z⟩
      · rw [z] at hS; cases hS
      · rw [z] at hS; cases hS
    · exact .inl ⟨o, hid_of (by simp) hS⟩
    · exact .inr hS
  · have : ∀ ns : List Int, RpL K [] H (ns.map D.int) (ns.map V.int) := by
      intro ns
      induction ns with
      | nil => exact .nil
      | cons n ns ih => exact .cons (.int n) ih
    exact this ns
  · unfold Run
    rw [e]
    exact fun bs' H' _ _ v r => r.bl_inv
/-- a constant of the module -/
structure Kg (K : PySem.W.Frag) (mg : Str → Option Value) (x : Str) (d : D) : Prop where
  ex : ∃ v u, mg x = some u ∧ RelV v u ∧ ∀ bs H, Rp K bs H d v
theorem z_kon {X : Cx} {cl : Str → Addr} {W : WX} {K : PySem.W.Frag} {mg : Str → Option Value} {x : Str} {d : D} {pos : Pos} (k : Kg K mg x d) (hK : X.K = K) (hmg : X.mg = mg) (hg : Gl X x) (hd : (x == ("__debug__" : Str)) = false := by decide) : SE X cl W (.Name x pos) (cK d) := by
  obtain ⟨v, u, h1, h2, h3⟩ := k.ex
  subst hK hmg
  exact s_glob hg h1 h2 h3 hd
theorem kg_int {K : PySem.W.Frag} {mg : Str → Option Value} {x : Str} {i : Int} {t : Tok} (h : mg x = some (.int i t)) : Kg K mg x (.int i) := ⟨.int i, _, h, ⟨t, rfl⟩, fun _ _ => .int i⟩
theorem kg_str {K : PySem.W.Frag} {mg : Str → Option Value} {x : Str} {i : Str} {t : Tok} (h : mg x = some (.str i t)) : Kg K mg x (.str i) := ⟨.str i, _, h, ⟨t, rfl⟩, fun _ _ => .str i⟩
end G

set_option Elab.async false
set_option linter.all false
set_option maxRecDepth 100000
set_option maxHeartbeats 4000000
/-! G, soundness: index, the module's own tuples and tables. -/
namespace G
open PySem L2 PySem.Spec PyProof.Rows
section
variable {X : Cx} {cl : Str → Addr} {W : WX}
theorem eqV_at {K : PySem.W.Frag} {bs : List Addr} {H : Hp} {x y : D} {v w : V} (h : flatD x = true) (h' : flatD y = true) (r : Rp K bs H x v) (r' : Rp K bs H y w) : eqV v w = eqD x y := eqV_ok h h' r r'
theorem all_at {ds : List D} {i : Nat} {d : D} (h : ds.all flatD = true) (e : ds[i]? = some d) : flatD d = true := List.all_eq_true.mp h d (List.mem_of_getElem? e)
theorem allV_ok {K : PySem.W.Frag} {bs : List Addr} {H : Hp} : ∀ {ds : List D} {vs : List V}, ds.all flatD = true → RpL K bs H ds vs → vs.all flatV = true
  | [], _, _, .nil => rfl
  | d :: ds, _, h, .cons r rr => by
    rw [List.all_cons, Bool.and_eq_true] at h
    rw [List.all_cons, flat_ok h.1 r, allV_ok h.2 rr]
    rfl
theorem me_index {K : PySem.W.Frag} : MeS K cl dIndexL (rIndex K) := by
  intro W bs s H x ds v vs Q S r rs h
  unfold dIndexL at h
  split at h
  · rename_i j y
    obtain ⟨w, rfl, ry⟩ := rs.one
    cases q : lAt s j with
    | none => exact (Run.of_no h (by simp only [q])).elim
    | some xs =>
    by_cases c : flatD y = true ∧ xs.all flatD = true
    rotate_left
    · exact (Run.of_no h (by simp only [q]; rw [if_neg c])).elim
    cases e : placeOf y xs with
    | none => exact (Run.of_no h (by simp only [q]; rw [if_pos c]; simp only [e])).elim
    | some k =>
    have fin := Run.of_ok h (a := .int k) (t := s) (by simp only [q]; rw [if_pos c]; simp only [e]) bs H (Gr.refl _ _) S _ (.int _)
    obtain ⟨p, us, e1, hp, e2, e3⟩ := S.lst q r
    obtain ⟨hk, hk2, hk3⟩ := List.findIdx?_eq_some_iff_getElem.mp e
    obtain ⟨u, eu, ru⟩ := e3.get (List.getElem?_eq_getElem hk)
    have fk := all_at c.2 (List.getElem?_eq_getElem hk)
    refine ⟨p, us, w, k, u, e1, rfl, SqL.of e2, flat_ok c.1 ry, allV_ok c.2 e3, eu, ?_, fun m z hm ez => ?_, fin⟩
    · rw [eqV_ok fk c.1 ru ry]; exact hk2
    · obtain ⟨d, ed, rd⟩ := e3.get' ez
      have hm' : m < xs.length := (List.getElem?_eq_some_iff.mp ed).1
      have hd : xs[m] = d := (List.getElem?_eq_some_iff.mp ed).2
      rw [eqV_ok (all_at c.2 ed) c.1 rd ry, ← hd]
      simpa using hk3 m hm
  · exact h.elim
section
variable {o a : Expr} {es : List Expr} {co : CE} {aa : CA} {apos cpos : Pos}
theorem s_index (ho : SE X cl W o co) (ha : SA X cl W (a :: es) aa) (hbase : attributeBase o "index" X.env (eval o X.env) = eval o X.env := by rfl)
    (hfew : ((backTo cpos (starEach (a :: es) X.env)).all (fun x => !x.1) && (backToKw cpos (keywordEach [] X.env)).all (fun x => x.1.isSome)
      && decide ((a :: es).length + ([] : List Keyword).length + (if ([] : List Keyword).isEmpty then 0 else 1) < 30)) = true := by rfl)
    (hline : (apos.endLine == cpos.line) = true := by rfl) (hs : starEach (a :: es) X.env = (false, eval a X.env) :: starEach es X.env := by rfl) (hplain : (backTo cpos (starEach es X.env)).any (·.1) = false := by rfl) : SE X cl W (.Call (.Attribute o "index" apos) (a :: es) [] cpos) (cBmL dIndexL co aa) :=
  PE.imp (pe_bm PySem.F.plainAttrs_list PySem.F.slot_list_index PySem.F.type_list_index mt_index ho ha hbase hfew hline hs hplain) fun σ H Q h => tBM_of me_index h
end
/-! ### the module's own -/
/-- a tuple of written texts -/
structure Kt (K : PySem.W.Frag) (mg : Str → Option Value) (x : Str) (ys : List Str) : Prop where
  ex : ∃ a o its n, mg x = some (.ref a) ∧ K.lookup a = some o ∧ o.cls = .type "tuple" ∧ o.dict = none ∧ o.data = .seq its n ∧ its.size ≤ sizeLine ∧ Vals (ys.map V.str) its.toList
/-- a written value: what it is -/
structure Kv (K : PySem.W.Frag) (d : D) (v : V) (u : Value) : Prop where
  rel : RelV v u
  rp : ∀ bs H, Rp K bs H d v
inductive KvL (K : PySem.W.Frag) : List D → List V → List Value → Prop
  | nil : KvL K [] [] []
  | cons {d : D} {v : V} {u : Value} {ds : List D} {vs : List V} {us : List Value} (h : Kv K d v u) (r : KvL K ds vs us) : KvL K (d :: ds) (v :: vs) (u :: us)
theorem kv_int {K : PySem.W.Frag} {i : Int} {t : Tok} : Kv K (.int i) (.int i) (.int i t) := ⟨⟨t, rfl⟩, fun _ _ => .int i⟩
theorem kv_str {K : PySem.W.Frag} {x : Str} {t : Tok} : Kv K (.str x) (.str x) (.str x t) := ⟨⟨t, rfl⟩, fun _ _ => .str x⟩
theorem KvL.vals {K : PySem.W.Frag} {ds : List D} {vs : List V} {us : List Value} (h : KvL K ds vs us) : Vals vs us := by
  induction h with
  | nil => exact .nil
  | cons h _ ih => exact .cons h.rel ih
theorem KvL.rpl {K : PySem.W.Frag} {ds : List D} {vs : List V} {us : List Value} (h : KvL K ds vs us) (bs : List Addr) (H : Hp) : RpL K bs H ds vs := by
  induction h with
  | nil => exact .nil
  | cons h _ ih => exact .cons (h.rp bs H) ih
theorem kv_tup {K : PySem.W.Frag} {a : Addr} {o : Obj} {its : Array Value} {n : Nat} {us : List Value} {ds : List D} {vs : List V} (h1 : K.lookup a = some o) (h2 : o.cls = .type "tuple") (h3 : o.data = .seq its n) (hu : its.toList = us) (h : KvL K ds vs us) (hs : its.size ≤ sizeLine) : Kv K (.tup ds) (.ref a) (.ref a) :=
  ⟨rfl, fun bs H => .tup (.inr ⟨o, its, n, h1, h2, h3, hs, by rw [hu]; exact h.vals⟩) (h.rpl bs H)⟩
theorem kg_of {K : PySem.W.Frag} {mg : Str → Option Value} {x : Str} {d : D} {v : V} {u : Value} (h : mg x = some u) (k : Kv K d v u) : Kg K mg x d := ⟨v, u, h, k.rel, k.rp⟩
theorem kt_of {K : PySem.W.Frag} {mg : Str → Option Value} {x : Str} {ys : List Str} {a : Addr} {its : Array Value} {n : Nat} {us : List Value} {ds : List D} {vs : List V} (h1 : mg x = some (.ref a)) (h2 : K.lookup a = some ⟨.type "tuple", none, .seq its n, #[]⟩) (hu : its.toList = us) (h : KvL K ds vs us) (hs : its.size ≤ sizeLine) (hv : vs = ys.map V.str) : Kt K mg x ys :=
  ⟨a, _, its, n, h1, h2, rfl, rfl, rfl, hs, by rw [hu, ← hv]; exact h.vals⟩
/-- the entries of a dict with written texts as keys -/
inductive KdL (K : PySem.W.Frag) (P : Params) : List (Str × D) → List DictEntry → Prop
  | nil : KdL K P [] []
  | cons {x : Str} {t : Tok} {d : D} {v : V} {u : Value} {tbl : List (Str × D)} {es : List DictEntry} (h : Kv K d v u) (r : KdL K P tbl es) : KdL K P ((x, d) :: tbl) (⟨PyData.keyHash P x, .str x t, u⟩ :: es)
theorem KdL.lit {K : PySem.W.Frag} {P : Params} {tbl : List (Str × D)} {es : List DictEntry} (h : KdL K P tbl es) : PySem.W.KeysLit P es := by
  induction h with
  | nil => exact trivial
  | cons _ _ ih => exact ⟨⟨_, _, rfl, rfl⟩, ih⟩
theorem KdL.plain {K : PySem.W.Frag} {P : Params} {tbl : List (Str × D)} {es : List DictEntry} (h : KdL K P tbl es) : es.any (·.refKey) = false := by
  induction h with
  | nil => rfl
  | cons _ _ ih => rw [List.any_cons, ih]; rfl
theorem KdL.find {K : PySem.W.Frag} {P : Params} {tbl : List (Str × D)} {es : List DictEntry} (h : KdL K P tbl es) (z : Str) :
    (tabV tbl z = none ∧ es.find? (fun e => e.key.isStr z) = none) ∨ ∃ d v e, tabV tbl z = some d ∧ es.find? (fun e => e.key.isStr z) = some e ∧ Kv K d v e.val := by
  induction h with
  | nil => exact .inl ⟨rfl, rfl⟩
  | @cons x t d v u tbl es k r ih =>
    have key : (⟨PyData.keyHash P x, .str x t, u⟩ : DictEntry).key.isStr z = decide (x = z) := by
      show (x == z) = _
      by_cases c : x = z <;> simp [c]
    by_cases c : x = z
    · refine .inr ⟨d, v, _, ?_, List.find?_cons_of_pos (by rw [key]; simp [c]), k⟩
      unfold tabV
      rw [List.find?_cons_of_pos (by simp [c])]
      rfl
    · have e1 : tabV ((x, d) :: tbl) z = tabV tbl z := by
        unfold tabV
        rw [List.find?_cons_of_neg (by simp [c])]
      rw [e1, List.find?_cons_of_neg (by rw [key]; simp [c])]
      exact ih
/-- a dict with written texts as keys -/
structure Kd (K : PySem.W.Frag) (P : Params) (mg : Str → Option Value) (x : Str) (tbl : List (Str × D)) : Prop where
  ex : ∃ a es n, mg x = some (.ref a) ∧ K.lookup a = some ⟨.type "dict", none, .dict es n, #[]⟩ ∧ KdL K P tbl es.toList ∧ (a == sysModules) = false
theorem kd_of {K : PySem.W.Frag} {P : Params} {mg : Str → Option Value} {x : Str} {tbl : List (Str × D)} {a : Addr} {es : Array DictEntry} {l : List DictEntry} {n : Nat} (h1 : mg x = some (.ref a)) (h2 : K.lookup a = some ⟨.type "dict", none, .dict es n, #[]⟩) (h3 : (a == sysModules) = false) (h4 : es.toList = l) (h5 : KdL K P tbl l) : Kd K P mg x tbl := ⟨a, es, n, h1, h2, by rw [h4]; exact h5, h3⟩
theorem ns_some {K : PySem.W.Frag} {a : Addr} {es : Array DictEntry} {n : Nat} {z : Str} {e : DictEntry} (h : K.lookup a = some ⟨.type "dict", none, .dict es n, #[]⟩) (f : es.toList.find? (fun e => e.key.isStr z) = some e) : PySem.W.nsIn K a z = some (some e.val) := by
  unfold PySem.W.nsIn
  rw [h]
  dsimp only
  rw [f]
theorem ns_none {K : PySem.W.Frag} {a : Addr} {es : Array DictEntry} {n : Nat} {z : Str} (h : K.lookup a = some ⟨.type "dict", none, .dict es n, #[]⟩) (f : es.toList.find? (fun e => e.key.isStr z) = none) (g : es.toList.any (·.refKey) = false) : PySem.W.nsIn K a z = some none := by
  unfold PySem.W.nsIn
  rw [h]
  dsimp only
  rw [f, g]
  rfl
section
variable {K : PySem.W.Frag} {mg : Str → Option Value} {x : Str} {b : Expr} {cb : CE} {p apos pos : Pos}
theorem z_tupIx {ys : List Str} (k : Kt K mg x ys) (hK : X.K = K) (hmg : X.mg = mg) (hg : Gl X x) (hb : SE X cl W b cb) (hd : (x == ("__debug__" : Str)) = false := by decide)
    (hbase : attributeBase (.Name x p) "index" X.env (eval (.Name x p) X.env) = eval (.Name x p) X.env := by rfl)
    (hfew : ((backTo pos (starEach [b] X.env)).all (fun x => !x.1) && (backToKw pos (keywordEach [] X.env)).all (fun x => x.1.isSome)
      && decide (([b] : List Expr).length + ([] : List Keyword).length + (if ([] : List Keyword).isEmpty then 0 else 1) < 30)) = true := by rfl)
    (hline : (apos.endLine == pos.line) = true := by rfl) (hs : starEach [b] X.env = (false, eval b X.env) :: starEach [] X.env := by rfl) (hplain : (backTo pos (starEach [] X.env)).any (·.1) = false := by rfl) :
    SE X cl W (.Call (.Attribute (.Name x p) "index" apos) [b] [] pos) (cUn (tupIx ys) cb) := by
  subst hK hmg
  obtain ⟨a, o, its, n, h1, h2, h3, h4, h5, h6, h7⟩ := k.ex
  refine PE.imp (pe_bm PySem.F.plainAttrs_tuple PySem.F.slot_tuple_index PySem.F.type_tuple_index mt_tup_index (pe_glob hg h1 (v := .ref a) rfl hd) (pa_cons hb pa_nil hs) hbase hfew hline hs hplain) fun σ H Q ⟨bs, s, e, S, N, h⟩ => ?_
  refine ⟨.inr (.inl ⟨rfl, o, h2, h3, h4⟩), bs, s, e, S, N, (Run.bnd h).imp fun d b1 t1 H1 g1 S1 k1 v r1 => ?_⟩
  cases d with
  | str z =>
    have hq : SqT X.K H1 a (ys.map V.str) := .inr ⟨o, its, n, h2, h3, h5, h6, h7⟩
    have k1 : Run X.K cl (fun u dx H' => W u dx σ H') b1 t1 H1 (match ys.findIdx? fun y => decide (y = z) with | some k => ret (D.int k) | none => noC) (fun d bs' _ H' => ∀ v, Rp X.K bs' H' d v → Q v H') := k1
    cases e : ys.findIdx? fun y => decide (y = z) with
    | none => rw [e] at k1; exact (show False from k1).elim
    | some j =>
      rw [e] at k1
      obtain ⟨hj, hj2, hj3⟩ := List.findIdx?_eq_some_iff_getElem.mp e
      refine ⟨a, ys, z, j, rfl, by rw [r1.str_inv], hq, ?_, fun m hm q => ?_, Run.now S1 k1 _ (.int _)⟩
      · rw [List.getElem?_eq_getElem hj]; exact congrArg some (of_decide_eq_true hj2)
      · have hm' := (List.getElem?_eq_some_iff.mp q).1
        have hq' := (List.getElem?_eq_some_iff.mp q).2
        have := hj3 m hm
        simp only [decide_eq_true_eq] at this
        exact this hq'
  | _ => exact (show False from k1).elim
/-- NAME[e] of a table -/
theorem z_tabIx {w : World} {tbl : List (Str × D)} (k : Kd K w.params mg x tbl) (hK : X.K = K) (hw : X.w = w) (hmg : X.mg = mg) (hg : Gl X x) (hb : SE X cl W b cb) (hd : (x == ("__debug__" : Str)) = false := by decide) (hs : PlainIx b := by intro _ _; rfl) :
    SE X cl W (.Subscript (.Name x p) b pos) (cUn (tabIx tbl) cb) := by
  subst hK hmg hw
  obtain ⟨a, es, n, h1, h2, h3, h4⟩ := k.ex
  refine PE.imp (pe_ix ix_kdict (pe_glob hg h1 (v := .ref a) rfl hd) hb hs) fun σ H Q ⟨bs, s, e, S, N, h⟩ => ?_
  refine ⟨bs, s, e, S, N, (Run.bnd h).imp fun d b1 t1 H1 g1 S1 k1 v r1 => ?_⟩
  cases d with
  | str z =>
    have k1 : Run X.K cl (fun u dx H' => W u dx σ H') b1 t1 H1 (match tabV tbl z with | some d => ret d | none => noC) (fun d bs' _ H' => ∀ v, Rp X.K bs' H' d v → Q v H') := k1
    rcases h3.find z with ⟨q1, q2⟩ | ⟨d, v', en, q1, q2, q3⟩
    · rw [q1] at k1; exact (show False from k1).elim
    · rw [q1] at k1
      exact ⟨a, z, v', rfl, r1.str_inv, ⟨es, n, en.val, h2, h3.lit, ns_some h2 q2, q3.rel⟩, Run.now S1 k1 _ (q3.rp _ _)⟩
  | _ => exact (show False from k1).elim
/-- NAME.get(e, d) of a table -/
def rGetT (K : PySem.W.Frag) (es : List DictEntry) : R2 := fun y z H Q => ∃ t, y = .str t ∧ ((es.find? (fun e => e.key.isStr t) = none ∧ Q z H) ∨ ∃ v e, es.find? (fun e => e.key.isStr t) = some e ∧ RelV v e.val ∧ Q v H)
theorem op_tabGet {P : Params} {tbl : List (Str × D)} {es : List DictEntry} (h3 : KdL K P tbl es) : OpS K cl (tabGet tbl) (rGetT K es) := by
  intro W bs s H x y v w Q S r r' h
  cases x with
  | str z =>
    have h : Run K cl W bs s H (ret ((tabV tbl z).getD y)) (fun d bs' _ H' => ∀ v, Rp K bs' H' d v → Q v H') := h
    refine ⟨z, r.str_inv, ?_⟩
    rcases h3.find z with ⟨q1, q2⟩ | ⟨d, v', en, q1, q2, q3⟩
    · rw [q1] at h
      exact .inl ⟨q2, Run.now S h _ r'⟩
    · rw [q1] at h
      exact .inr ⟨v', en, q2, q3.rel, Run.now S h _ (q3.rp _ _)⟩
  | _ => exact (show False from h).elim
theorem z_tabGet {w : World} {tbl : List (Str × D)} {c : Expr} {cc : CE} (k : Kd K w.params mg x tbl) (hK : X.K = K) (hw : X.w = w) (hmg : X.mg = mg) (hg : Gl X x) (hb : SE X cl W b cb) (hc : SE X cl W c cc) (m : M2 X (.Name x p) "get" apos b c pos) (hd : (x == ("__debug__" : Str)) = false := by decide) :
    SE X cl W (.Call (.Attribute (.Name x p) "get" apos) [b, c] [] pos) (cBin (tabGet tbl) cb cc) := by
  subst hK hmg hw
  obtain ⟨a, es, n, h1, h2, h3, h4⟩ := k.ex
  refine ⟨fun pins s σ H Q I h => ?_⟩
  have h := tOp_of (op_tabGet h3) h
  refine wpAny_Call_method m.base m.few m.line PySem.F.plainAttrs_dict PySem.F.slot_dict_get PySem.F.type_dict_get (thn ((pe_glob hg h1 (v := .ref a) rfl hd).run pins s σ H (fun y H' => y = .ref a ∧ tOp (rGetT X.K es.toList) (TEof X.K cl W cb) (TEof X.K cl W cc) σ H' Q) I ⟨rfl, h⟩) fun u s1 ⟨y, H1, I1, ry, ey, q1⟩ => ?_)
  subst ey
  obtain rfl : u = Value.ref a := ry
  have hm := PySem.W.mapOf_K (prog := X.prog) (w := X.w) I1.kIn h2 h3.lit
  refine ⟨hm.typeIs, fun b q => ?_, ?_⟩
  · cases q
    exact ⟨_, I1.kIn _ _ h2, rfl⟩
  rw [m.trees]
  refine Calls.callWith_builtin rfl (Calls.evalArgs_plain (Calls.spliced_cons (thn (hb.run pins s1 σ H1 _ I1 q1) fun iv s2 ⟨y, H2, I2, ry, q2⟩ =>
    Calls.spliced_cons (thn (hc.run pins s2 σ H2 _ I2 q2) fun fv s3 ⟨z, H3, I3, rz, t, et, q3⟩ => Calls.spliced_nil ?_))))
  subst et
  obtain ⟨tk, rfl⟩ := ry
  have hm3 := PySem.W.mapOf_K (prog := X.prog) (w := X.w) I3.kIn h2 h3.lit
  refine call_meetsIn PySem.F.slot_dict_get hm3.typeIs PySem.F.entry_dict_get (PySem.F.args_dict_get_3 _ _ _) (meets_dict_get_default (strKind X.prog X.w) a (strKind_is X.prog X.w t tk) h4 fv) ⟨_, hm3, ?_⟩
  rcases q3 with ⟨f, q⟩ | ⟨v, en, f, rv, q⟩
  · rw [PySem.W.find_K h2 (ns_none h2 f h3.plain)]
    exact ⟨z, H3, I3.tok _, rz, q⟩
  · rw [PySem.W.find_K h2 (ns_some h2 f)]
    exact ⟨v, H3, I3.tok _, rv, q⟩
end
end
end G

set_option Elab.async false
set_option linter.all false
set_option maxRecDepth 100000
set_option maxHeartbeats 4000000
/-! G: own dicts with ints and texts as keys (soundness; the data level is in Gd) -/
namespace G
open PySem L2 PySem.Spec PyProof.Rows
section
variable {X : Cx} {cl : Str → Addr} {W : WX}
def PsR (K : PySem.W.Frag) (bs : List Addr) (H : Hp) : List (Key × D) → List (V × V) → Prop := Paired fun (p : Key × D) (q : V × V) => q.1 = kV p.1 ∧ Rp K bs H p.2 q.2
theorem psr_kv {K : PySem.W.Frag} {bs : List Addr} {H : Hp} {ps : List (Key × D)} {vs : List (V × V)} (h : PsR K bs H ps vs) : ∃ kvs : List (Key × V), vs = kvs.map (fun kv => (kV kv.1, kv.2)) ∧ KvR K bs H ps kvs := by
  unfold PsR at h
  induction h with
  | nil => exact ⟨[], rfl, .nil⟩
  | @cons p q ps qs h t ih =>
    obtain ⟨kvs, e, r⟩ := ih
    obtain ⟨h1, h2⟩ := h
    refine ⟨(p.1, q.2) :: kvs, ?_, .cons ⟨rfl, h2⟩ r⟩
    rw [e, List.map_cons, ← h1]
theorem kvr_any {K : PySem.W.Frag} {bs : List Addr} {H : Hp} {ps : List (Key × D)} {kvs : List (Key × V)} (h : KvR K bs H ps kvs) (k : Key) : (ps.any fun kv => decide (kv.1 = k)) = kvs.any fun kv => decide (kv.1 = k) := by
  unfold KvR at h
  induction h with
  | nil => rfl
  | cons h t ih => rw [List.any_cons, List.any_cons, ih, h.1]
theorem kvr_map {K : PySem.W.Frag} {bs : List Addr} {H : Hp} {ps : List (Key × D)} {kvs : List (Key × V)} (h : KvR K bs H ps kvs) (k : Key) {d : D} {v : V} (r : Rp K bs H d v) :
    KvR K bs H (ps.map fun kv => if kv.1 = k then (kv.1, d) else kv) (kvs.map fun kv => if kv.1 = k then (kv.1, v) else kv) := by
  unfold KvR at *
  induction h with
  | nil => exact .nil
  | @cons p q ps qs h t ih =>
    refine .cons ?_ ih
    dsimp only
    rw [h.1]
    by_cases c : q.1 = k
    · simp only [if_pos c]; exact ⟨trivial, r⟩
    · simp only [if_neg c]; exact h
theorem kvr_app {K : PySem.W.Frag} {bs : List Addr} {H : Hp} {ps : List (Key × D)} {kvs : List (Key × V)} (h : KvR K bs H ps kvs) (k : Key) {d : D} {v : V} (r : Rp K bs H d v) : KvR K bs H (ps ++ [(k, d)]) (kvs ++ [(k, v)]) := by
  unfold KvR at *
  induction h with
  | nil => exact .cons ⟨rfl, r⟩ .nil
  | cons h t ih => exact .cons h ih
theorem kvr_len {K : PySem.W.Frag} {bs : List Addr} {H : Hp} {ps : List (Key × D)} {kvs : List (Key × V)} (h : KvR K bs H ps kvs) : ps.length = kvs.length := by
  unfold KvR at h
  induction h with
  | nil => rfl
  | cons h t ih => rw [List.length_cons, List.length_cons, ih]
theorem kvr_put {K : PySem.W.Frag} {bs : List Addr} {H : Hp} {ps : List (Key × D)} {kvs : List (Key × V)} (h : KvR K bs H ps kvs) (k : Key) {d : D} {v : V} (r : Rp K bs H d v) : KvR K bs H (putD ps k d) (putK kvs k v) := by
  unfold putD putK
  rw [kvr_any h k]
  split
  · exact kvr_map h k r
  · exact kvr_app h k r
theorem kvr_merge {K : PySem.W.Frag} {bs : List Addr} {H : Hp} {ps : List (Key × D)} {kvs : List (Key × V)} (h : KvR K bs H ps kvs) : ∀ {as : List (Key × D)} {bs' : List (Key × V)}, KvR K bs H as bs' → KvR K bs H (mergeD as ps) (mergeK bs' kvs) := by
  unfold KvR at h
  induction h with
  | nil => exact fun q => q
  | @cons p q ps qs h t ih =>
    intro as bs' r
    show KvR K bs H (mergeD (putD as p.1 p.2) ps) (mergeK (putK bs' q.1 q.2) qs)
    rw [← h.1]
    exact ih (kvr_put r p.1 h.2)
/-- the pairs of a display -/
def SP (X : Cx) (cl : Str → Addr) (W : WX) (pos : Pos) (keys : List (Option Expr)) (values : List Expr) (c : CP) : Prop :=
  ∃ trs, PPs X pos keys values trs ∧ ∀ (σ : L2.St) bs s e H (Q : List (V × V) → Hp → Prop), StR X.K cl bs s H → EnR X.K bs H e σ → Run X.K cl (fun u dx H' => W u dx σ H') bs s H (c e) (fun ps bs' _ H' => ∀ vs, PsR X.K bs' H' ps vs → Q vs H') → tPairs trs σ H Q
theorem sp_nil {pos : Pos} : SP X cl W pos [] [] pNil := ⟨[], pps_nil, fun σ bs s e H Q S N h => Run.now S h [] .nil⟩
theorem sp_cons {pos : Pos} {k v : Expr} {ks : List (Option Expr)} {vs : List Expr} {ck cv : CE} {c : CP} (hk : SE X cl W k ck) (hv : SE X cl W v cv) (hr : SP X cl W pos ks vs c) : SP X cl W pos (some k :: ks) (v :: vs) (pCons ck cv c) := by
  obtain ⟨trs, h1, h2⟩ := hr
  refine ⟨_, pps_cons hk hv h1, fun σ bs s e H Q S N h => ?_⟩
  refine ⟨bs, s, e, S, N, (Run.bnd h).imp fun x b1 t1 H1 g1 S1 k1 v r1 => ⟨b1, t1, e, S1, N.mono g1, (Run.bnd k1).imp fun y b2 t2 H2 g2 S2 k2 w r2 => ?_⟩⟩
  refine h2 σ b2 t2 e H2 _ S2 ((N.mono g1).mono g2) ((Run.bnd k2).imp fun ps b3 t3 H3 g3 S3 k3 vs r3 => ?_)
  have r1 := (r1.mono g2).mono g3
  cases x with
  | int i => exact Run.now S3 k3 _ (.cons ⟨r1.int_inv, r2.mono g3⟩ r3)
  | str z => exact Run.now S3 k3 _ (.cons ⟨r1.str_inv, r2.mono g3⟩ r3)
  | _ => exact (show False from k3).elim
theorem s_disp {pos : Pos} {keys : List (Option Expr)} {values : List Expr} {c : CP} (hp : SP X cl W pos keys values c) (hall : keys.all (·.isSome) = true := by rfl) (hl : keys.length = values.length := by rfl) (h0 : keys ≠ [] := by simp) (h15 : keys.length ≤ 15 := by decide) :
    SE X cl W (.Dict keys values pos) (cDisp c) := by
  obtain ⟨trs, h1, h2⟩ := hp
  refine PE.imp (pe_disp h1 hall hl h0 h15) fun σ H Q ⟨bs, s, e, S, N, h⟩ p hn => ?_
  have g := gr_box (o := .dK []) S hn
  have S1 : StR X.K cl (bs ++ [p]) (s ++ [.dk []]) (upd H p (.dK [])) := S.push hn (m := .dk []) (o := .dK []) .nil
  have h := (Run.bnd h).of_ok (a := .box s.length) rfl _ _ g S1
  refine h2 σ _ _ e _ _ S1 (N.mono g) ((Run.bnd h).imp fun ps b' t' H' g' S' h' vs r' => ?_)
  obtain ⟨kvs, ev, rk⟩ := psr_kv r'
  have hb : b'[s.length]? = some p := g'.at (push_at S)
  have h' : Run X.K cl (fun u dx H' => W u dx σ H') b' t' H' (endDisp (.box s.length) ps) (fun d bs' _ H' => ∀ v, Rp X.K bs' H' d v → Q v H') := h'
  cases q : t'[s.length]? with
  | none => exact (Run.of_no h' (by unfold endDisp; simp only [q])).elim
  | some m =>
    cases m with
    | dk zs =>
      cases zs with
      | cons z zs => exact (Run.of_no h' (by unfold endDisp; simp only [q])).elim
      | nil =>
        obtain ⟨p', o, e1, e2, e3⟩ := S'.at_ _ _ q
        rw [hb] at e1
        cases e1
        cases o with
        | dK ws =>
          cases (show KvR X.K b' H' [] ws from e3)
          by_cases c : ps.length ≤ 15
          · refine ⟨e2, kvs, ev, by rw [← kvr_len rk]; exact c, ?_⟩
            exact h'.of_ok (a := .box s.length) (t := t'.set s.length (.dk (mergeD [] ps))) (by unfold endDisp; simp only [q]; rw [if_pos c]) b' _ (gr_write hb e2) (S'.write hb e2 (m := .dk (mergeD [] ps)) (o := .dK (mergeK [] kvs)) (kvr_merge rk .nil)) _ (.box hb)
          · exact (Run.of_no h' (by unfold endDisp; simp only [q]; rw [if_neg c])).elim
        | _ => exact (show False from e3).elim
    | _ => exact (Run.of_no h' (by unfold endDisp; simp only [q])).elim
/-! d[k]: of a dict, else of a row -/
theorem kvr_val {K : PySem.W.Frag} {bs : List Addr} {H : Hp} {ps : List (Key × D)} {kvs : List (Key × V)} (h : KvR K bs H ps kvs) (k : Key) : (valD ps k = none ∧ valV kvs k = none) ∨ ∃ d v, valD ps k = some d ∧ valV kvs k = some v ∧ Rp K bs H d v := by
  unfold KvR at h
  induction h with
  | nil => exact .inl ⟨rfl, rfl⟩
  | @cons p q ps qs h t ih =>
    unfold valD valV at *
    by_cases c : q.1 = k
    · refine .inr ⟨p.2, q.2, ?_, ?_, h.2⟩
      · rw [List.find?_cons_of_pos (by rw [h.1]; simp [c])]; rfl
      · rw [List.find?_cons_of_pos (by simp [c])]; rfl
    · rw [List.find?_cons_of_neg (by rw [h.1]; simp [c]), List.find?_cons_of_neg (by simp [c])]
      exact ih
/-- a box that is a dict: what stands at its address -/
theorem dk_at {K : PySem.W.Frag} {bs : List Addr} {H : Hp} {s : Sto} {x : D} {v : V} {kvs : List (Key × D)} (S : StR K cl bs s H) (r : Rp K bs H x v) (q : dkAt s x = some kvs) : ∃ p ws, v = .ref p ∧ Rd H p (.dK ws) ∧ KvR K bs H kvs ws := by
  cases x with
  | box j =>
    unfold dkAt at q
    cases q4 : s[j]? with
    | none => simp only [q4] at q; cases q
    | some m =>
      cases r with
      | @box _ p hb2 =>
        obtain ⟨p', o, f1, f2, f3⟩ := S.at_ _ _ q4
        rw [f1] at hb2
        cases hb2
        cases m with
        | dk zs =>
          simp only [q4] at q
          cases q
          cases o with
          | dK ws => exact ⟨_, ws, rfl, .inl f2, f3⟩
          | _ => exact (show False from f3).elim
        | fd zs =>
          simp only [q4] at q
          cases q
          cases o with
          | frz ob u =>
            cases u with
            | dK ws => exact ⟨_, ws, rfl, .inr ⟨ob, f2⟩, f3⟩
            | _ => exact (show False from f3).elim
          | _ => exact (show False from f3).elim
        | _ => simp only [q4] at q; cases q
  | _ => cases q
theorem dk_wr {K : PySem.W.Frag} {bs : List Addr} {H : Hp} {s : Sto} {x : D} {v : V} {kvs : List (Key × D)} (S : StR K cl bs s H) (r : Rp K bs H x v) (q : dkWr s x = some kvs) : ∃ j p ws, x = .box j ∧ s[j]? = some (.dk kvs) ∧ v = .ref p ∧ bs[j]? = some p ∧ H p = some (.dK ws) ∧ KvR K bs H kvs ws := by
  cases x with
  | box j =>
    unfold dkWr at q
    cases q4 : s[j]? with
    | none => simp only [q4] at q; cases q
    | some m =>
      cases m with
      | dk zs =>
        simp only [q4] at q
        cases q
        obtain ⟨p, o, f1, f2, f3⟩ := S.at_ _ _ q4
        cases o with
        | dK ws =>
          cases r with
          | box hb2 =>
            rw [f1] at hb2
            cases hb2
            exact ⟨j, _, ws, rfl, q4, rfl, f1, f2, f3⟩
        | _ => exact (show False from f3).elim
      | _ => simp only [q4] at q; cases q
  | _ => cases q
theorem key_at {K : PySem.W.Frag} {bs : List Addr} {H : Hp} {y : D} {w : V} {k : Key} (r : Rp K bs H y w) (ky : keyOf y = some k) : w = kV k := by
  cases y with
  | int i => cases ky; exact r.int_inv
  | str z => cases ky; exact r.str_inv
  | _ => cases ky
theorem dget_rd {H : Hp} {a : Addr} {ws : List (Key × V)} {k : Key} (e : Rd H a (.dK ws)) : DGet H a (kV k) (valV ws k) := .inl ⟨ws, k, e, rfl, rfl⟩
theorem pe_or {e : Expr} {t1 t2 : TE} (h1 : PE X e t1) (h2 : PE X e t2) : PE X e (fun σ H Q => t1 σ H Q ∨ t2 σ H Q) := ⟨fun pins s σ H Q I h => h.elim (h1.run pins s σ H Q I) (h2.run pins s σ H Q I)⟩
theorem Run.eq {K : PySem.W.Frag} {W : Value → Option Addr → Hp → Prop} {bs : List Addr} {s : Sto} {H : Hp} {α : Type} {m : Cm α} {P : α → List Addr → Sto → Hp → Prop} (h : Run K cl W bs s H m P) : Run K cl W bs s H m (fun a bs' t H' => m s = .ok a t ∧ P a bs' t H') := by
  unfold Run at *
  cases e : m s with
  | ok a t => rw [e] at h; exact fun b1 H1 g S => ⟨rfl, h b1 H1 g S⟩
  | ex c fs t => rw [e] at h; exact h
  | no => rw [e] at h; exact h
theorem Run.same {K : PySem.W.Frag} {W : Value → Option Addr → Hp → Prop} {bs : List Addr} {s : Sto} {H : Hp} {α : Type} {m m' : Cm α} {P : α → List Addr → Sto → Hp → Prop} (e : m s = m' s) (h : Run K cl W bs s H m P) : Run K cl W bs s H m' P := by
  unfold Run at *
  rw [e] at h
  exact h
theorem ix2_way {ca cb : CE} {e : En} {s : Sto} : cBin dIx2 ca cb e s = cBin dIx ca cb e s ∨ ∃ x t y u kvs, ca e s = .ok x t ∧ cb e t = .ok y u ∧ dkAt u x = some kvs := by
  unfold cBin bnd
  cases h1 : ca e s with
  | no => exact .inl rfl
  | ex c fs t => exact .inl rfl
  | ok x t =>
    dsimp only
    cases h2 : cb e t with
    | no => exact .inl rfl
    | ex c fs t => exact .inl rfl
    | ok y u =>
      dsimp only
      cases h3 : dkAt u x with
      | none => exact .inl (by unfold dIx2; rw [h3])
      | some kvs => exact .inr ⟨x, t, y, u, kvs, rfl, h2, h3⟩
theorem s_ix2 {a b : Expr} {ca cb : CE} {pos : Pos} (hu : X.A.units + 1 < cLine) (ha : SE X cl W a ca) (hb : SE X cl W b cb) (hs : PlainIx b := by intro _ _; rfl) (hn : NoSl b := by intro _ _; rfl) : SE X cl W (.Subscript a b pos) (cBin dIx2 ca cb) :=
  PE.imp (pe_or (s_ix ha hb hs) (pe_dget hu ha hb hn)) fun σ H Q ⟨bs, s, e, S, N, h⟩ => by
    rcases ix2_way (ca := ca) (cb := cb) (e := e) (s := s) with q | ⟨x0, t0, y0, u0, kvs, q1, q2, q3⟩
    · exact .inl ⟨bs, s, e, S, N, Run.same q h⟩
    · refine .inr ⟨bs, s, e, S, N, (Run.bnd h).eq.imp fun x b1 t1 H1 g1 S1 ⟨e1, k1⟩ v r1 => ⟨b1, t1, e, S1, N.mono g1, (Run.bnd k1).eq.imp fun y b2 t2 H2 g2 S2 ⟨e2, k2⟩ w r2 => ?_⟩⟩
      rw [q1] at e1
      cases e1
      rw [q2] at e2
      cases e2
      obtain ⟨p, ws, ev, f2, f3⟩ := dk_at S2 (r1.mono g2) q3
      cases ky : keyOf y0 with
      | none => exact (Run.of_no k2 (by unfold dIx2; simp only [q3, ky])).elim
      | some k =>
        have hw := key_at r2 ky
        subst hw
        rcases kvr_val f3 k with ⟨z1, z2⟩ | ⟨d, v', z1, z2, z3⟩
        · exact (Run.of_no k2 (by unfold dIx2; simp only [q3, ky, z1])).elim
        · exact ⟨p, v', ev, by rw [← z2]; exact dget_rd f2, k2.of_ok (a := d) (t := u0) (by unfold dIx2; simp only [q3, ky, z1]) b2 H2 (Gr.refl _ _) S2 v' z3⟩
/-! d[k] = v: of a dict, else of a list -/
theorem set_or {r1 r2 : TSet} (h1 : PSet X r1) (h2 : PSet X r2) : PSet X (fun o i v H Q => r1 o i v H Q ∨ r2 o i v H Q) := fun pins s σ H o i v ov iv u Q I a b c h => h.elim (h1 pins s σ H o i v ov iv u Q I a b c) (h2 pins s σ H o i v ov iv u Q I a b c)
theorem pu_2 {K : PySem.W.Frag} : PuS K cl dPut2 (fun o i v H Q => rSetL o i v H Q ∨ rSetD o i v H Q) := by
  intro W bs s H x y z v w u Q S r1 r2 r3 h
  cases q : dkWr s x with
  | none => exact .inl (pu_lst W bs s H x y z v w u Q S r1 r2 r3 (Run.same (by unfold dPut2; simp only [q]) h))
  | some kvs =>
    obtain ⟨j, p, ws, ex, q4, ev, f1, f2, f3⟩ := dk_wr S r1 q
    subst ex ev
    cases ky : keyOf y with
    | none => exact (Run.of_no h (by unfold dPut2; simp only [q, ky])).elim
    | some k =>
      have hw := key_at r2 ky
      subst hw
      by_cases c : kvs.length < big
      · refine .inr ⟨p, _, rfl, .inl ⟨ws, k, f2, rfl, ?_, rfl⟩, ?_⟩
        · rw [← kvr_len f3]
          exact Nat.lt_of_lt_of_le c (big_line (Nat.le_refl _))
        · exact h.of_ok (a := ()) (t := s.set j (.dk (putD kvs k z))) (by unfold dPut2; simp only [q, ky]; rw [if_pos c]) bs _ (gr_write f1 f2) (S.write f1 f2 (m := .dk (putD kvs k z)) (o := .dK (putK ws k u)) (kvr_put f3 k r3))
      · exact (Run.of_no h (by unfold dPut2; simp only [q, ky]; rw [if_neg c])).elim
theorem set_2 (hu : X.A.units + 1 < cLine) : PSet X (fun o i v H Q => rSetL o i v H Q ∨ rSetD o i v H Q) := set_or set_list (set_dict hu)
/-! d.get(k, x) of a dict -/
theorem s_getD {o e f : Expr} {co ce cf : CE} {apos cpos : Pos} (hu : X.A.units + 1 < cLine) (ho : SE X cl W o co) (he : SE X cl W e ce) (hf : SE X cl W f cf) (m : M2 X o "get" apos e f cpos) : SE X cl W (.Call (.Attribute o "get" apos) [e, f] [] cpos) (cGetD co ce cf) :=
  PE.imp (pe_dget2 hu ho he hf m) fun σ H Q ⟨bs, s, e, S, N, h⟩ => by
    refine ⟨bs, s, e, S, N, (Run.bnd h).imp fun x b1 t1 H1 g1 S1 h1 v r1 => ?_⟩
    cases q : dkAt t1 x with
    | none => exact (Run.of_no (Run.bnd h1) (by unfold chkD; simp only [q])).elim
    | some kvs =>
      have h1 := (Run.bnd h1).of_ok (a := ()) (t := t1) (by unfold chkD; simp only [q]) b1 H1 (Gr.refl _ _) S1
      obtain ⟨p, ws, ev, f2, f3⟩ := dk_at S1 r1 q
      refine ⟨p, ev, .inl ⟨ws, f2⟩, b1, t1, e, S1, N.mono g1, (Run.bnd h1).imp fun y b2 t2 H2 g2 S2 h2 w r2 => ⟨b2, t2, e, S2, (N.mono g1).mono g2, (Run.bnd h2).imp fun z b3 t3 H3 g3 S3 h3 u r3 => ?_⟩⟩
      cases q3 : dkAt t3 x with
      | none => exact (Run.of_no h3 (by unfold dGetD; simp only [q3])).elim
      | some kvs3 =>
        cases ky : keyOf y with
        | none => exact (Run.of_no h3 (by unfold dGetD; simp only [q3, ky])).elim
        | some k =>
          have rx := (r1.mono g2).mono g3
          obtain ⟨p', ws3, ev3, f4, f5⟩ := dk_at S3 rx q3
          rw [ev] at ev3
          cases ev3
          have hw := key_at (r2.mono g3) ky
          subst hw
          have fin := h3.of_ok (a := (valD kvs3 k).getD z) (t := t3) (by unfold dGetD; simp only [q3, ky]) b3 H3 (Gr.refl _ _) S3
          refine ⟨valV ws3 k, dget_rd f4, fin _ ?_⟩
          rcases kvr_val f5 k with ⟨z1, z2⟩ | ⟨d, v', z1, z2, z3⟩
          · rw [z1, z2]; exact r3
          · rw [z1, z2]; exact z3
/-! k in d: of a dict, else of a row -/
def tDInB (neg : Bool) (ty td : TE) : TE := fun σ H Q => ty σ H fun y H1 => td σ H1 fun x H2 => ∃ a o, x = .ref a ∧ DGet H2 a y o ∧ Q (.bl (if neg then !o.isSome else o.isSome)) H2
theorem in2_way {neg : Bool} {ca cb : CE} {e : En} {s : Sto} : cBin (dIn2 neg) ca cb e s = cBin (dIn neg) ca cb e s ∨ ∃ x t y u kvs, ca e s = .ok x t ∧ cb e t = .ok y u ∧ dkAt u y = some kvs := by
  unfold cBin bnd
  cases h1 : ca e s with
  | no => exact .inl rfl
  | ex c fs t => exact .inl rfl
  | ok x t =>
    dsimp only
    cases h2 : cb e t with
    | no => exact .inl rfl
    | ex c fs t => exact .inl rfl
    | ok y u =>
      dsimp only
      cases h3 : dkAt u y with
      | none => exact .inl (by unfold dIn2; rw [h3])
      | some kvs => exact .inr ⟨x, t, y, u, kvs, rfl, h2, h3⟩
theorem in2_of {K : PySem.W.Frag} {neg : Bool} {ca cb : CE} {σ : L2.St} {H : Hp} {Q : VK} (h : TEof K cl W (cBin (dIn2 neg) ca cb) σ H Q) : tOp (rIn K neg) (TEof K cl W ca) (TEof K cl W cb) σ H Q ∨ tDInB neg (TEof K cl W ca) (TEof K cl W cb) σ H Q := by
  obtain ⟨bs, s, e, S, N, h⟩ := h
  rcases in2_way (neg := neg) (ca := ca) (cb := cb) (e := e) (s := s) with q | ⟨x0, t0, y0, u0, kvs, q1, q2, q3⟩
  · exact .inl (tOp_of ops_in ⟨bs, s, e, S, N, Run.same q h⟩)
  · refine .inr ⟨bs, s, e, S, N, (Run.bnd h).eq.imp fun x b1 t1 H1 g1 S1 ⟨e1, k1⟩ v r1 => ⟨b1, t1, e, S1, N.mono g1, (Run.bnd k1).eq.imp fun y b2 t2 H2 g2 S2 ⟨e2, k2⟩ w r2 => ?_⟩⟩
    rw [q1] at e1
    cases e1
    rw [q2] at e2
    cases e2
    obtain ⟨p, ws, ev, f2, f3⟩ := dk_at S2 r2 q3
    cases ky : keyOf x0 with
    | none => exact (Run.of_no k2 (by unfold dIn2; simp only [q3, ky])).elim
    | some k =>
      have hw := key_at (r1.mono g2) ky
      subst hw
      have fin := k2.of_ok (a := .bl (if neg then !(valD kvs k).isSome else (valD kvs k).isSome)) (t := u0) (by unfold dIn2; simp only [q3, ky]) b2 H2 (Gr.refl _ _) S2
      refine ⟨p, valV ws k, ev, dget_rd f2, ?_⟩
      have e3 : (valV ws k).isSome = (valD kvs k).isSome := by
        rcases kvr_val f3 k with ⟨z1, z2⟩ | ⟨d, v', z1, z2, z3⟩
        · rw [z1, z2]; rfl
        · rw [z1, z2]; rfl
      rw [e3]
      exact fin _ (.bl _)
theorem s_in2 {a b : Expr} {ca cb : CE} {pos : Pos} (hu : X.A.units + 1 < cLine) (ha : SE X cl W a ca) (hb : SE X cl W b cb) (hm : behindInMarks .In b = false) : SE X cl W (.Compare a [.In] [b] pos) (cBin (dIn2 false) ca cb) :=
  PE.imp (pe_or (pe_cmpR op_in_seq ha hb hm) (pe_cmp (pc_din hu ha hb) hm)) fun σ H Q h => in2_of h
theorem s_nin2 {a b : Expr} {ca cb : CE} {pos : Pos} (hu : X.A.units + 1 < cLine) (ha : SE X cl W a ca) (hb : SE X cl W b cb) (hm : behindInMarks .NotIn b = false) : SE X cl W (.Compare a [.NotIn] [b] pos) (cBin (dIn2 true) ca cb) :=
  PE.imp (pe_or (pe_cmpR op_notIn_seq ha hb hm) (pe_cmp (pc_dnotin hu ha hb) hm)) fun σ H Q h => in2_of h
theorem pt_or {e : Expr} {t1 t2 : TT} (h1 : PT X e t1) (h2 : PT X e t2) : PT X e (fun σ H Q => t1 σ H Q ∨ t2 σ H Q) := ⟨fun pins s σ H Q I h => h.elim (h1.run pins s σ H Q I) (h2.run pins s σ H Q I)⟩
theorem t_in2 {a b : Expr} {ca cb : CE} {pos : Pos} (hu : X.A.units + 1 < cLine) (ha : SE X cl W a ca) (hb : SE X cl W b cb) (hm : behindInMarks .In b = false) : ST X cl W (.Compare a [.In] [b] pos) (tE (cBin (dIn2 false) ca cb)) :=
  PT.imp (pt_or (pt_cmpR op_in_seq ha hb hm) (pt_cmp (pc_din hu ha hb) hm)) fun σ H Q h => tTest_of (t := fun σ H Q => tOp (rIn X.K false) (TEof X.K cl W ca) (TEof X.K cl W cb) σ H Q ∨ tDInB false (TEof X.K cl W ca) (TEof X.K cl W cb) σ H Q) (fun Q h => in2_of h) h
theorem t_nin2 {a b : Expr} {ca cb : CE} {pos : Pos} (hu : X.A.units + 1 < cLine) (ha : SE X cl W a ca) (hb : SE X cl W b cb) (hm : behindInMarks .NotIn b = false) : ST X cl W (.Compare a [.NotIn] [b] pos) (tE (cBin (dIn2 true) ca cb)) :=
  PT.imp (pt_or (pt_cmpR op_notIn_seq ha hb hm) (pt_cmp (pc_dnotin hu ha hb) hm)) fun σ H Q h => tTest_of (t := fun σ H Q => tOp (rIn X.K true) (TEof X.K cl W ca) (TEof X.K cl W cb) σ H Q ∨ tDInB true (TEof X.K cl W ca) (TEof X.K cl W cb) σ H Q) (fun Q h => in2_of h) h
theorem u1_of {n : Nat} (h : n + 64 < cLine) : n + 1 < cLine := by omega
end
end G

set_option Elab.async false
set_option linter.all false
set_option maxRecDepth 100000
set_option maxHeartbeats 4000000
/-! G: unpacking of lists, objects of own classes, more of dicts (soundness; the data level is in Gd) -/
namespace G
open PySem L2 PySem.Spec PyProof.Rows
section
variable {X : Cx} {cl : Str → Addr} {W : WX}
/-! a, b = xs, of a tuple or a list -/
theorem pg_or {e : Expr} {t1 t2 : TG} (h1 : PG X e t1) (h2 : PG X e t2) : PG X e (fun v σ H Q => t1 v σ H Q ∨ t2 v σ H Q) := ⟨fun pins s σ H v u Q I r h => h.elim (h1.run pins s σ H v u Q I r) (h2.run pins s σ H v u Q I r)⟩
theorem stAll_len : ∀ {is : List Nat} {ds : List D} {e e' : En}, stAll e is ds = some e' → ds.length = is.length
  | [], [], _, _, _ => rfl
  | [], _ :: _, _, _, h => by cases h
  | _ :: _, [], _, _, h => by cases h
  | _ :: is, _ :: ds, _, _, h => by simp [stAll_len (is := is) (ds := ds) h]
theorem ss_unp2 {es : List Expr} {k n : Nat} {is : List Nat} {e : Expr} {c : CE} {pt pos : Pos} (hc : X.calm = true) (hg : PGs X es (TGsOf X.K is)) (he : SE X cl W e c) (hl : is.length = n := by rfl) (hn : (assignEach es X.env).length = n := by rfl) (hst : (assignEach es X.env).findIdx? (·.1) = none := by rfl)
    (hs : swapsWithSole [.Tuple es k pt] e pos.line X.env = pure false := by rfl) (hw : swappedStores [.Tuple es k pt] e X.env = pure none := by rfl) (h1 : (assignEach [.Tuple es k pt] X.env).map (·.2) = [assign (.Tuple es k pt) X.env] := by rfl) :
    SS X cl W (.Assign [.Tuple es k pt] e pos) (sUnp2 is c) :=
  PS.imp (ps_asg he (pg_or (pg_tup hc hg hn hst) (pg_unl hc hg hn hst)) hs hw h1) fun E σ H ⟨bs, s, e, S, N, h⟩ => by
    refine ⟨bs, s, e, S, N, (Run.lft N h).imp fun d b1 t1 H1 g1 S1 k v r => ?_⟩
    have N1 := N.mono g1
    cases q : itemsOf t1 d with
    | none => exact (Run.of_no k (by simp only [q])).elim
    | some ds =>
      cases q2 : stAll e is ds with
      | none => exact (Run.of_no k (by simp only [q, q2])).elim
      | some e' =>
        have fin : ∀ σ', EnR X.K b1 H1 e' σ' → E.nx σ' H1 := fun σ' N' => (k.of_ok (a := Fl.nx e') (t := t1) (by simp only [q, q2]) b1 H1 (Gr.refl _ _) S1) σ' N'
        have hlen := stAll_len q2
        cases d with
        | tup xs =>
          cases q
          cases r with
          | @tup _ p vs q1 q3 => exact .inl ⟨p, vs, rfl, sqT_mono (fun a o e => (hid_some e).2) q1, by rw [← q3.length, hlen, hl], b1, e, _, e', N1, q3, q2, fin⟩
        | lst xs =>
          cases q
          cases r with
          | @lst _ p vs q1 q3 => exact .inr ⟨p, vs, rfl, (fzL_mono (fun a o e => (hid_some e).2) q1).sq, by rw [← q3.length, hlen, hl], b1, e, _, e', N1, q3, q2, fin⟩
        | box j =>
          obtain ⟨p, vs, e1, _, e2, e3⟩ := S1.lst (show lAt t1 j = some ds from q) r
          exact .inr ⟨p, vs, e1, SqL.of e2, by rw [← e3.length, hlen, hl], b1, e, _, e', N1, e3, q2, fin⟩
        | _ => cases q
/-! objects -/
theorem obj_at {K : PySem.W.Frag} {bs : List Addr} {H : Hp} {s : Sto} {x : D} {v : V} {c : Str} {fs : List (Str × D)} (S : StR K cl bs s H) (r : Rp K bs H x v) (q : objAt c s x = some fs) :
    ∃ j p dx gs, x = .box j ∧ v = .ref p ∧ bs[j]? = some p ∧ s[j]? = some (.ins c fs) ∧ H p = some (.ins (cl c) dx gs) ∧ FsR K bs H fs gs := by
  cases x with
  | box j =>
    unfold objAt at q
    cases q4 : s[j]? with
    | none => simp only [q4] at q; cases q
    | some m =>
      cases m with
      | ins c' zs =>
        simp only [q4] at q
        split at q
        · cases q
          rename_i hc
          subst hc
          obtain ⟨p, o, f1, f2, f3⟩ := S.at_ _ _ q4
          cases o with
          | ins C dx gs =>
            obtain ⟨h1, h2⟩ := (show C = cl c' ∧ FsR K bs H _ gs from f3)
            subst h1
            cases r with
            | box hb2 =>
              rw [f1] at hb2
              cases hb2
              exact ⟨j, _, dx, gs, rfl, rfl, f1, q4, f2, h2⟩
          | _ => exact (show False from f3).elim
        · cases q
      | _ => simp only [q4] at q; cases q
  | _ => cases q
theorem fsr_lk {K : PySem.W.Frag} {bs : List Addr} {H : Hp} {fs : List (Str × D)} {gs : List (Str × V)} (h : FsR K bs H fs gs) (f : Str) : (lkF fs f = none ∧ gs.lookup f = none) ∨ ∃ d v, lkF fs f = some d ∧ gs.lookup f = some v ∧ Rp K bs H d v := by
  unfold FsR at h
  induction h with
  | nil => exact .inl ⟨rfl, rfl⟩
  | @cons p q ps qs h t ih =>
    obtain ⟨p1, p2⟩ := p
    obtain ⟨q1, q2⟩ := q
    obtain ⟨h1, h2⟩ := h
    dsimp only at h1 h2
    subst h1
    unfold lkF List.lookup
    by_cases c : p1 = f
    · subst c
      refine .inr ⟨p2, q2, by rw [if_pos rfl], by simp, h2⟩
    · have c' : (f == p1) = false := by simpa using fun e => c e.symm
      rw [if_neg c]
      simp only [c']
      exact ih
theorem fsr_put {K : PySem.W.Frag} {bs : List Addr} {H : Hp} {fs : List (Str × D)} {gs : List (Str × V)} (h : FsR K bs H fs gs) (f : Str) {d : D} {v : V} (r : Rp K bs H d v) : FsR K bs H (putFD f d fs) (putF f v gs) := by
  unfold FsR at *
  induction h with
  | nil => exact .cons ⟨rfl, r⟩ .nil
  | @cons p q ps qs h t ih =>
    obtain ⟨p1, p2⟩ := p
    obtain ⟨q1, q2⟩ := q
    obtain ⟨h1, h2⟩ := h
    dsimp only at h1 h2
    subst h1
    unfold putFD putF
    by_cases c : p1 = f
    · rw [if_pos c, if_pos c]; exact .cons ⟨rfl, r⟩ t
    · rw [if_neg c, if_neg c]; exact .cons ⟨rfl, h2⟩ ih
theorem fsr_len {K : PySem.W.Frag} {bs : List Addr} {H : Hp} {fs : List (Str × D)} {gs : List (Str × V)} (h : FsR K bs H fs gs) : fs.length = gs.length := by
  unfold FsR at h
  induction h with
  | nil => rfl
  | cons h t ih => rw [List.length_cons, List.length_cons, ih]
theorem s_fld {c f : Str} {o : Expr} {co : CE} {pos : Pos} (kc : Cls X.K (cl c)) (kn : NoAttr X.K (cl c) f) (ho : SE X cl W o co) (hb : attributeBase o f X.env (eval o X.env) = eval o X.env := by rfl) : SE X cl W (.Attribute o f pos) (cUn (dFld c f) co) :=
  PE.imp (pe_fld ho hb) fun σ H Q ⟨bs, s, e, S, N, h⟩ => by
    refine ⟨bs, s, e, S, N, (Run.bnd h).imp fun x b1 t1 H1 g1 S1 k v r => ?_⟩
    cases q : objAt c t1 x with
    | none => exact (Run.of_no k (by unfold dFld; simp only [q])).elim
    | some fs =>
      obtain ⟨j, p, dx, gs, ex, ev, hb, _, hp, hf⟩ := obj_at S1 r q
      rcases fsr_lk hf f with ⟨z1, z2⟩ | ⟨d, w, z1, z2, z3⟩
      · exact (Run.of_no k (by unfold dFld; simp only [q, z1])).elim
      · exact ⟨p, cl c, dx, gs, w, ev, hp, kc, kn, z2, k.of_ok (a := d) (t := t1) (by unfold dFld; simp only [q, z1]) b1 H1 (Gr.refl _ _) S1 w z3⟩
theorem ss_fld {c f : Str} {o e : Expr} {co ce : CE} {pos pos' : Pos} (kc : Cls X.K (cl c)) (kn : NoAttr X.K (cl c) f) (ho : SE X cl W o co) (he : SE X cl W e ce) (hs : swapsWith e (some (.Attribute o f pos')) pos.line X.env = pure false := by rfl) : SS X cl W (.Assign [.Attribute o f pos'] e pos) (sFld c f co ce) :=
  PS.imp (ps_fld ho he hs) fun E σ H ⟨bs, s, e, S, N, h⟩ => by
    refine ⟨bs, s, e, S, N, (Run.lft N h).imp fun z b1 t1 H1 g1 S1 k v r => ⟨b1, t1, e, S1, N.mono g1, (Run.lft (N.mono g1) k).imp fun x b2 t2 H2 g2 S2 k2 w r2 => ?_⟩⟩
    have N2 := (N.mono g1).mono g2
    have k2 := Run.lft N2 k2
    cases q : objAt c t2 x with
    | none => exact (Run.of_no k2 (by unfold dSetF; simp only [q])).elim
    | some fs =>
      obtain ⟨j, p, dx, gs, ex, ev, hb, hj, hp, hf⟩ := obj_at S2 r2 q
      subst ex
      by_cases hl : fs.length < 1000
      · refine ⟨p, cl c, dx, gs, ev, hp, kc, kn, by rw [← fsr_len hf]; exact hl, ?_⟩
        have g3 : Gr b2 H2 b2 (upd H2 p (.ins (cl c) dx (putF f v gs))) := gr_write hb hp
        have S3 : StR X.K cl b2 (t2.set j (.ins c (putFD f z fs))) (upd H2 p (.ins (cl c) dx (putF f v gs))) := S2.write hb hp (m := .ins c (putFD f z fs)) (o := .ins (cl c) dx (putF f v gs)) ⟨rfl, fsr_put hf f (r.mono g2)⟩
        have k3 := k2.of_ok (a := ()) (t := t2.set j (.ins c (putFD f z fs))) (by unfold dSetF; simp only [q]; rw [if_pos hl]) b2 _ g3 S3
        exact (Run.now S3 (a := Fl.nx e) (P := FlP X.K cl W E) k3) _ (N2.mono g3)
      · exact (Run.of_no k2 (by unfold dSetF; simp only [q]; rw [if_neg hl])).elim
/-- a method of a class, in a world where none raises -/
structure DfM (Y : Wd) (c m : Str) (k n : Nat) (g : List D → Cm D) : Prop where
  ar : ∀ ds, ds.length ≠ n → ∀ s, g ds s = .no
  ex : ∃ f fd ps, Meth Y.K (Y.cl c) m f ∧ Binds Y.K fd ps [] ∧ ps.length = n ∧ FnOk Y.P Y.w Y.K Y.mg Y.base CX0 k f fd ps (spOf Y.K Y.cl (fun _ => F0) n g)
/-- a class that is made -/
structure DfC (Y : Wd) (c : Str) (k n : Nat) (g : List D → Cm D) : Prop where
  ar : ∀ ds, ds.length ≠ n → ∀ s, g ds s = .no
  ex : ∃ f fd ps, Y.mg c = some (.ref (Y.cl c)) ∧ Mk Y.K (Y.cl c) f ∧ Binds Y.K fd ps [] ∧ ps.length = n ∧ FnOk Y.P Y.w Y.K Y.mg Y.base CX0 k f fd ps (spOf Y.K Y.cl (fun _ => F0) n g)
theorem dfm_mk {Y : Wd} {c m x qual : Str} {st : Stmt} {f : Addr} {fd : FuncData} {N ps : List Str} {k n l : Nat} {b : CS} (hCX : Y.CX = CX0) (hF : Y.F = fun _ => F0) (F : Fun Y.K x qual st f fd) (S : FnScope N ps (defScope st)) (hm : Meth Y.K (Y.cl c) m f) (hb : Binds Y.K fd ps [])
    (hn : ps.length = n) (hN : N.length = l)
    (body : ∀ (cdv : Value) (A : Around) (outer : List PySem.Env) (s : Shared) (H : Hp) (E : XK), Room k (A.deeper (envOfC qual (defScope st) s.heap.objs.size f cdv)) →
      SSs (cxOf CX0 Y.P Y.w Y.K Y.mg Y.base N qual (defScope st) f cdv A outer s H E).nox Y.cl W0 (defBody st) b) : DfM Y c m (k + 1) n (dfn n l b) :=
  ⟨fun ds h s => by unfold dfn; rw [if_neg h]; rfl, f, fd, ps, hm, hb, hn, by
    have q := fn_mk hCX hF F S hn hN body
    rw [hCX, hF] at q
    exact q⟩
theorem dfc_mk {Y : Wd} {c x qual : Str} {st : Stmt} {f : Addr} {fd : FuncData} {N ps : List Str} {k n l : Nat} {b : CS} (hCX : Y.CX = CX0) (hF : Y.F = fun _ => F0) (F : Fun Y.K x qual st f fd) (S : FnScope N ps (defScope st)) (hmg : Y.mg c = some (.ref (Y.cl c))) (hm : Mk Y.K (Y.cl c) f) (hb : Binds Y.K fd ps [])
    (hn : ps.length = n) (hN : N.length = l)
    (body : ∀ (cdv : Value) (A : Around) (outer : List PySem.Env) (s : Shared) (H : Hp) (E : XK), Room k (A.deeper (envOfC qual (defScope st) s.heap.objs.size f cdv)) →
      SSs (cxOf CX0 Y.P Y.w Y.K Y.mg Y.base N qual (defScope st) f cdv A outer s H E).nox Y.cl W0 (defBody st) b) : DfC Y c (k + 1) n (dfn n l b) :=
  ⟨fun ds h s => by unfold dfn; rw [if_neg h]; rfl, f, fd, ps, hmg, hm, hb, hn, by
    have q := fn_mk hCX hF F S hn hN body
    rw [hCX, hF] at q
    exact q⟩
/-- the law's promise, wherever the classes stand -/
def spAny (K : PySem.W.Frag) (F : XK → XK) (n : Nat) (g : List D → Cm D) : Sp := fun vs H Q E => ∀ cl, spOf K cl F n g vs H Q E
variable {P : Program} {w : World} {K : PySem.W.Frag} {mg : Str → Option Value} {base : Heap} {c m : Str} {k n : Nat} {g : List D → Cm D} {o e0 : Expr} {es : List Expr} {co : CE} {aa : CA} {p pos apos : Pos}
theorem s_meth {pl : Sem Bool} (d : DfM (wz P w K mg base cl) c m k n g) (i : Is X P w K mg base) (hr : Room k X.A) (kc : Cls K (cl c)) (ho : SE X cl W o co) (ha : SA X cl W (e0 :: es) aa)
    (hst : starEach (e0 :: es) X.env = (false, eval e0 X.env) :: starEach es X.env := by rfl) (hpl : (backTo pos (starEach es X.env)).any (·.1) = false := by rfl)
    (ht : eval (.Call (.Attribute o m apos) (e0 :: es) [] pos) X.env = (do
      let ov ← eval o X.env
      standAt apos.atName
      let (f, first) ← holding [ov] (getMethod ov m pl)
      callWith pos f first (backTo pos (starEach (e0 :: es) X.env)) (backToKw pos (keywordEach [] X.env))) := by rfl) : SE X cl W (.Call (.Attribute o m apos) (e0 :: es) [] pos) (cMth c m g co aa) := by
  obtain ⟨e1, e2, e3, e4, e5⟩ := i
  obtain ⟨Xp, Xw, XK, Xmg, Xb, XA, XN, Xs0, XH0, Xenv, Xo, Xst, Xex, Xfn, Xc, Xpn, Xxe⟩ := X
  simp only at e1 e2 e3 e4 e5
  subst e1 e2 e3 e4 e5
  obtain ⟨f, fd, ps, hm, hb, hl, F⟩ := d.ex
  refine PE.imp (pe_meth (E := fun _ _ _ => False) (pl := pl) ho kc hm F hr hb .nil pass0 ha hst hpl ht) fun σ H Q ⟨bs, s, e, S, N, h⟩ => ?_
  refine ⟨bs, s, e, S, N, (Run.bnd h).imp fun x b1 t1 H1 g1 S1 h1 v r1 => ?_⟩
  cases q : objAt c t1 x with
  | none => exact (Run.of_no (Run.bnd h1) (by unfold chkO; simp only [q])).elim
  | some fs =>
    obtain ⟨j, p, dx, gs, ex, ev, hbj, _, hp, hf⟩ := obj_at S1 r1 q
    rcases fsr_lk hf m with ⟨z1, z2⟩ | ⟨d, w, z1, z2, z3⟩
    rotate_left
    · exact (Run.of_no (Run.bnd h1) (by unfold chkO; simp only [q]; rw [if_neg (by rw [z1]; simp)])).elim
    have h1 := (Run.bnd h1).of_ok (a := ()) (t := t1) (by unfold chkO; simp only [q]; rw [if_pos z1]) b1 H1 (Gr.refl _ _) S1
    refine ⟨p, dx, gs, ev, hp, z2, b1, t1, e, S1, N.mono g1, (Run.bnd h1).imp fun ds b2 t2 H2 g2 S2 h2 vs r2 => ?_⟩
    show spOf _ _ _ n g (v :: (vs ++ [])) H2 Q _
    rw [List.append_nil]
    by_cases hlen : (x :: ds).length = n
    · exact ⟨b2, t2, x :: ds, hlen, S2, .cons (r1.mono g2) r2, h2.pur⟩
    · exact (Run.of_no h2.pur (d.ar _ hlen t2)).elim
theorem s_meth0 {pl : Sem Bool} (d : DfM (wz P w K mg base cl) c m k n g) (i : Is X P w K mg base) (hr : Room k X.A) (kc : Cls K (cl c)) (ho : SE X cl W o co)
    (ht : eval (.Call (.Attribute o m apos) [] [] pos) X.env = (do
      let ov ← eval o X.env
      standAt apos.atName
      let (f, first) ← holding [ov] (getMethod ov m pl)
      callWith pos f first (backTo pos (starEach [] X.env)) (backToKw pos (keywordEach [] X.env))) := by rfl) : SE X cl W (.Call (.Attribute o m apos) [] [] pos) (cMth c m g co aNil) := by
  obtain ⟨e1, e2, e3, e4, e5⟩ := i
  obtain ⟨Xp, Xw, XK, Xmg, Xb, XA, XN, Xs0, XH0, Xenv, Xo, Xst, Xex, Xfn, Xc, Xpn, Xxe⟩ := X
  simp only at e1 e2 e3 e4 e5
  subst e1 e2 e3 e4 e5
  obtain ⟨f, fd, ps, hm, hb, hl, F⟩ := d.ex
  refine PE.imp (pe_meth0 (E := fun _ _ _ => False) (pl := pl) ho kc hm F hr hb .nil pass0 ht) fun σ H Q ⟨bs, s, e, S, N, h⟩ => ?_
  refine ⟨bs, s, e, S, N, (Run.bnd h).imp fun x b1 t1 H1 g1 S1 h1 v r1 => ?_⟩
  cases q : objAt c t1 x with
  | none => exact (Run.of_no (Run.bnd h1) (by unfold chkO; simp only [q])).elim
  | some fs =>
    obtain ⟨j, p, dx, gs, ex, ev, hbj, _, hp, hf⟩ := obj_at S1 r1 q
    rcases fsr_lk hf m with ⟨z1, z2⟩ | ⟨d, w, z1, z2, z3⟩
    rotate_left
    · exact (Run.of_no (Run.bnd h1) (by unfold chkO; simp only [q]; rw [if_neg (by rw [z1]; simp)])).elim
    have h1 := (Run.bnd h1).of_ok (a := ()) (t := t1) (by unfold chkO; simp only [q]; rw [if_pos z1]) b1 H1 (Gr.refl _ _) S1
    refine ⟨p, dx, gs, ev, hp, z2, ?_⟩
    unfold tNil
    dsimp only [List.append_nil]
    have h2 := Run.now S1 (Run.bnd h1)
    by_cases hlen : ([x] : List D).length = n
    · exact ⟨b1, t1, [x], hlen, S1, .cons r1 .nil, h2.pur⟩
    · exact (Run.of_no h2.pur (d.ar _ hlen t1)).elim
theorem gr_mk {bs : List Addr} {s : Sto} {H : Hp} {x dx : Addr} {o1 o2 : HO} (S : StR K cl bs s H) (h1 : H x = none) (h2 : H dx = none) (n : dx ≠ x) : Gr bs H (bs ++ [x]) (upd (upd H dx o1) x o2) :=
  (gr_new h2).trans (gr_box (S.new h2) (by rw [upd_ne n.symm]; exact h1))
theorem make_of {bs : List Addr} {s : Sto} {H : Hp} {Q : VK} {ds : List D} {vs : List V} {W' : Value → Option Addr → Hp → Prop} (d : DfC (wz P w K mg base cl) c k n g) (S : StR K cl bs s H) (r : RpL K bs H ds vs)
    (h : Run K cl W' bs s H (bnd (alloc (.ins c [])) fun b => bnd (pur (g (b :: ds))) (retB b)) fun d bs' _ H' => ∀ v, Rp K bs' H' d v → Q v H') (x dx : Addr) (h1 : H x = none) (h2 : H dx = none) (h3 : dx ≠ x) :
    spOf K cl (fun _ => F0) n g (.ref x :: (vs ++ [])) (upd (upd H dx (.own x)) x (.ins (cl c) dx [])) (fun v H2 => v = .non ∧ Q (.ref x) H2) fun _ _ _ => False := by
  have g := gr_mk (o1 := .own x) (o2 := .ins (cl c) dx []) S h1 h2 h3
  have S1 : StR K cl (bs ++ [x]) (s ++ [.ins c []]) (upd (upd H dx (.own x)) x (.ins (cl c) dx [])) := (S.new h2).push (m := .ins c []) (o := .ins (cl c) dx []) (by rw [upd_ne h3.symm]; exact h1) ⟨rfl, .nil⟩
  have h := (Run.bnd h).of_ok (a := .box s.length) rfl _ _ g S1
  rw [List.append_nil]
  have hb : (bs ++ [x])[s.length]? = some x := push_at S
  have r2 : RpL K (bs ++ [x]) (upd (upd H dx (.own x)) x (.ins (cl c) dx [])) (.box s.length :: ds) (.ref x :: vs) := .cons (.box hb) (r.mono g)
  by_cases hlen : (D.box s.length :: ds).length = n
  · refine ⟨_, _, _, hlen, S1, r2, (Run.pur (Run.bnd h)).imp fun z b2 t2 H2 g2 S2 h2 v r3 => ?_⟩
    cases z with
    | non => exact ⟨r3.non_inv, (Run.now S2 (show Run K cl W' b2 t2 H2 (ret (D.box s.length)) _ from h2)) _ (.box (g2.at hb))⟩
    | _ => exact (show False from h2).elim
  · exact (Run.of_no (Run.pur (Run.bnd h)) (d.ar _ hlen _)).elim
theorem s_make (d : DfC (wz P w K mg base cl) c k n g) (i : Is X P w K mg base) (hr : Room (k + 1) X.A) (hg : Gl X c) (ha : SA X cl W (e0 :: es) aa) (hdb : (c == ("__debug__" : Str)) = false := by decide)
    (he : starEach (e0 :: es) X.env = (false, eval e0 X.env) :: starEach es X.env := by rfl) (hpl : (backTo pos (starEach es X.env)).any (·.1) = false := by rfl) : SE X cl W (.Call (.Name c p) (e0 :: es) [] pos) (cMake c g aa) := by
  obtain ⟨e1, e2, e3, e4, e5⟩ := i
  obtain ⟨Xp, Xw, XK, Xmg, Xb, XA, XN, Xs0, XH0, Xenv, Xo, Xst, Xex, Xfn, Xc, Xpn, Xxe⟩ := X
  simp only at e1 e2 e3 e4 e5
  subst e1 e2 e3 e4 e5
  obtain ⟨f, fd, ps, hmg, M, hb, hl, F⟩ := d.ex
  refine PE.imp (pe_make (E := fun _ _ _ => False) M F hr hg hmg hb .nil pass0 ha hdb he hpl) fun σ H Q ⟨bs, s, e, S, N, h⟩ => ?_
  exact ⟨bs, s, e, S, N, (Run.bnd h).imp fun ds b1 t1 H1 g1 S1 h1 vs r1 x dx z1 z2 z3 => make_of d S1 r1 h1 x dx z1 z2 z3⟩
theorem s_make0 (d : DfC (wz P w K mg base cl) c k n g) (i : Is X P w K mg base) (hr : Room (k + 1) X.A) (hg : Gl X c) (hdb : (c == ("__debug__" : Str)) = false := by decide) : SE X cl W (.Call (.Name c p) [] [] pos) (cMake c g aNil) := by
  obtain ⟨e1, e2, e3, e4, e5⟩ := i
  obtain ⟨Xp, Xw, XK, Xmg, Xb, XA, XN, Xs0, XH0, Xenv, Xo, Xst, Xex, Xfn, Xc, Xpn, Xxe⟩ := X
  simp only at e1 e2 e3 e4 e5
  subst e1 e2 e3 e4 e5
  obtain ⟨f, fd, ps, hmg, M, hb, hl, F⟩ := d.ex
  refine PE.imp (pe_make0 (E := fun _ _ _ => False) M F hr hg hmg hb .nil pass0 hdb) fun σ H Q ⟨bs, s, e, S, N, h⟩ => ?_
  exact fun x dx z1 z2 z3 => make_of d S .nil (Run.now S (Run.bnd h)) x dx z1 z2 z3
end
end G

set_option Elab.async false
set_option linter.all false
set_option maxRecDepth 100000
set_option maxHeartbeats 4000000
/-! G: more of dicts (soundness; the data level is in Gd): {}, dict(d), update, ==, len, loops over the keys -/
namespace G
open PySem L2 PySem.Spec PyProof.Rows
section
variable {X : Cx} {cl : Str → Addr} {W : WX} {e0 : Expr} {es : List Expr} {aa : CA} {p pos : Pos}
theorem s_newD : SE X cl W (.Dict [] [] pos) cNewD := PE.imp pe_dnewK fun σ H Q ⟨bs, s, e, S, N, h⟩ => by
  intro d hd
  exact h.of_ok (a := .box s.length) rfl (bs ++ [d]) _ (gr_box S hd) (S.push hd (m := .dk []) (o := .dK []) .nil) _ (.box (push_at S))
theorem bu_dict {K : PySem.W.Frag} : BuS K cl bDict (fun xs H Q => ∃ (a : Addr) (kvs : List (Key × V)), xs = [.ref a] ∧ Rd H a (.dK kvs) ∧ ∀ p, H p = none → Q (.ref p) (upd H p (.dK kvs))) := by
  intro W bs s H ds vs Q S r h
  match ds, r, h with
  | [], r, h => exact (show False from h).elim
  | _ :: _ :: _, r, h => exact (show False from h).elim
  | [x], r, h =>
    obtain ⟨v, rfl, r1⟩ := r.one
    cases e : dkAt s x with
    | some kvs =>
      obtain ⟨p, ws, rfl, e2, e3⟩ := dk_at S r1 e
      refine ⟨p, ws, rfl, e2, fun l hl => ?_⟩
      exact h.of_ok (a := .box s.length) (t := s ++ [.dk kvs]) (by unfold bDict; simp only [e]; rfl) (bs ++ [l]) _ (gr_box S hl) (S.push hl (m := .dk kvs) (o := .dK ws) e3) _ (.box (push_at S))
    | none => exact (Run.of_no h (by unfold bDict; simp only [e])).elim
theorem s_dict1 (hg : Gl X "dict") (hm : X.mg "dict" = none) (ha : SA X cl W (e0 :: es) aa) (he : starEach (e0 :: es) X.env = (false, eval e0 X.env) :: starEach es X.env := by rfl) (hpl : (backTo pos (starEach es X.env)).any (·.1) = false := by rfl) : SE X cl W (.Call (.Name "dict" p) (e0 :: es) [] pos) (cCall bDict aa) :=
  s_ty call_dictD bu_dict hg hm (by decide +kernel) ha (by decide) (by decide) he hpl
/-! d.update(e) -/
theorem d_upd {X : Cx} {pins : List (Addr × Obj)} {σ : L2.St} {H : Hp} {s : Shared} {a b : Addr} {kvs more : List (Key × V)} {A : Around} {E : Value → Shared → Prop} {Q : Value → Shared → Prop} (I : Inv X pins σ H s) (e1 : H a = some (.dK kvs)) (e2 : Rd H b (.dK more)) (ne : a ≠ b) (hl : kvs.length + more.length ≤ sizeLine)
    (h : ∀ s', Inv X pins σ (upd H a (.dK (mergeK kvs more))) s' → Q .none s') : wpAny (model X.prog X.w) A (call (.builtin "dict.update") [.ref a, .ref b]) Q E s := by
  obtain ⟨z1, hd1, vs1, r1, dd1⟩ := dk_of I.hok e1
  obtain ⟨z2, hd2, vs2, r2, dd2⟩ := dk_rd I.hok e2
  refine call_meetsIn PySem.F.slot_dict_update dd1.typeIs PySem.F.entry_dict_update (PySem.F.args_dict_update_2 _ _) (meets_dict_update (mixKind X.prog X.w) a b ne hd2) ⟨_, _, dd1, dd2, by rw [← r1.length, ← r2.length]; exact hl, fun h' d1 d2 hs => h _ ?_⟩
  have he : ∃ q, h'.get? a = some q := let ⟨q, _, _, hq, _⟩ := d1; ⟨q, hq⟩
  have hz : (mergeK kvs more).length ≤ sizeLine := Nat.le_trans (length_mergeK more kvs) hl
  exact d_write I (by rw [e1]; exact True.intro) hs he (dk_new hz hd1 (r2.merge r1) d1)
def tDUpd (td ty : TE) : TE := fun σ H Q => td σ H fun x H1 => ∃ a, x = .ref a ∧ IsD H1 a ∧ ty σ H1 fun y H2 => ∃ b kvs more, y = .ref b ∧ a ≠ b ∧ H2 a = some (.dK kvs) ∧ Rd H2 b (.dK more) ∧ kvs.length + more.length ≤ sizeLine ∧ Q .non (upd H2 a (.dK (mergeK kvs more)))
theorem pe_dupd {o e : Expr} {td ty : TE} {apos cpos : Pos} (ho : PE X o td) (he : PE X e ty) (m : M1 X o "update" apos e cpos) : PE X (.Call (.Attribute o "update" apos) [e] [] cpos) (tDUpd td ty) := by
  refine ⟨fun pins s σ H Q I h => ?_⟩
  refine wpAny_Call_method m.base m.few m.line PySem.F.plainAttrs_dict PySem.F.slot_dict_update PySem.F.type_dict_update (thn (ho.run pins s σ H _ I h) fun u s1 ⟨x, H1, I1, rx, a, ex, d, q1⟩ => ?_)
  subst ex
  obtain rfl : u = Value.ref a := rx
  obtain ⟨t1, t2, _⟩ := isD_at I1 d
  refine ⟨t1, t2, ?_⟩
  rw [m.trees]
  refine Calls.callWith_builtin rfl (Calls.evalArgs_plain (Calls.spliced_cons (thn (he.run pins s1 σ H1 _ I1 q1) fun iv s2 ⟨y, H2, I2, ry, b, kvs, more, ey, ne, ea, eb, hl, q2⟩ => Calls.spliced_nil ?_)))
  subst ey
  obtain rfl : iv = Value.ref b := ry
  exact d_upd I2 ea eb ne hl fun s3 I3 => ⟨.non, _, I3, rfl, q2⟩
theorem s_upd {o e : Expr} {co ce : CE} {apos cpos : Pos} (ho : SE X cl W o co) (he : SE X cl W e ce) (m : M1 X o "update" apos e cpos) : SE X cl W (.Call (.Attribute o "update" apos) [e] [] cpos) (cUpd co ce) :=
  PE.imp (pe_dupd ho he m) fun σ H Q ⟨bs, s, e, S, N, h⟩ => by
    refine ⟨bs, s, e, S, N, (Run.bnd h).imp fun x b1 t1 H1 g1 S1 h1 v r1 => ?_⟩
    cases q : dkAt t1 x with
    | none => exact (Run.of_no (Run.bnd h1) (by unfold chkD; simp only [q])).elim
    | some kvs =>
      have h1 := (Run.bnd h1).of_ok (a := ()) (t := t1) (by unfold chkD; simp only [q]) b1 H1 (Gr.refl _ _) S1
      obtain ⟨p, ws, ev, f2, f3⟩ := dk_at S1 r1 q
      refine ⟨p, ev, .inl ⟨ws, f2⟩, b1, t1, e, S1, N.mono g1, (Run.bnd h1).imp fun y b2 t2 H2 g2 S2 h2 w r2 => ?_⟩
      have r1 := r1.mono g2
      cases q1 : dkWr t2 x with
      | none => exact (Run.of_no h2 (by unfold dUpd; simp only [q1])).elim
      | some k1 =>
        cases q2 : dkAt t2 y with
        | none => exact (Run.of_no h2 (by unfold dUpd; simp only [q1, q2])).elim
        | some k2 =>
          obtain ⟨j, p1, w1, ex, q4, ev1, f1, f5, f6⟩ := dk_wr S2 r1 q1
          obtain ⟨p2, w2, ev2, f7, f8⟩ := dk_at S2 r2 q2
          subst ex
          rw [ev] at ev1
          cases ev1
          cases y with
          | box i =>
            by_cases c : j ≠ i ∧ k1.length + k2.length ≤ big
            · refine ⟨p2, w1, w2, ev2, fun z => ?_, f5, f7, ?_, ?_⟩
              · subst z
                cases r2 with
                | box hb =>
                  cases ev2
                  obtain ⟨l1, e1⟩ := List.getElem?_eq_some_iff.mp f1
                  obtain ⟨l2, e2⟩ := List.getElem?_eq_some_iff.mp hb
                  exact c.1 ((List.getElem_inj S2.nd).mp (e1.trans e2.symm))
              · rw [← kvr_len f6, ← kvr_len f8]; exact big_line c.2
              · exact h2.of_ok (a := .non) (t := t2.set j (.dk (mergeD k1 k2))) (by unfold dUpd; simp only [q1, q2]; rw [if_pos c]) b2 _ (gr_write f1 f5) (S2.write f1 f5 (m := .dk (mergeD k1 k2)) (o := .dK (mergeK w1 w2)) (kvr_merge f8 f6)) _ .non
            · exact (Run.of_no h2 (by unfold dUpd; simp only [q1, q2]; rw [if_neg c])).elim
          | _ => exact (Run.of_no h2 (by unfold dUpd; simp only [q1, q2])).elim
/-! == of dicts -/
theorem flat_eq {K : PySem.W.Frag} {bs : List Addr} {H : Hp} {d d' : D} {v v' : V} (hf : flatD d = true) (e : eqS d' d = some true) (r : Rp K bs H d v) (r' : Rp K bs H d' v') : v' = v ∧ flatB v = true := by
  cases d <;> cases d' <;> first | (cases hf; done) | (cases e; done) | skip
  · rw [r.non_inv, r'.non_inv]; exact ⟨rfl, rfl⟩
  · rw [r.bl_inv, r'.bl_inv]; simp [eqS] at e; subst e; exact ⟨rfl, rfl⟩
  · rw [r.int_inv, r'.int_inv]; simp [eqS] at e; subst e; exact ⟨rfl, rfl⟩
  · rw [r.str_inv, r'.str_inv]; simp [eqS] at e; subst e; exact ⟨rfl, rfl⟩
theorem kvr_mem {K : PySem.W.Frag} {bs : List Addr} {H : Hp} {ps : List (Key × D)} {kvs : List (Key × V)} (h : KvR K bs H ps kvs) : ∀ q ∈ kvs, ∃ p ∈ ps, p.1 = q.1 ∧ Rp K bs H p.2 q.2 := by
  unfold KvR at h
  induction h with
  | nil => intro q hq; cases hq
  | @cons p q ps qs h t ih =>
    intro z hz
    rcases List.mem_cons.mp hz with rfl | hz
    · exact ⟨p, List.mem_cons_self, h⟩
    · obtain ⟨p', m, r⟩ := ih z hz
      exact ⟨p', List.mem_cons_of_mem _ m, r⟩
theorem alike_ok {K : PySem.W.Frag} {bs : List Addr} {H : Hp} {ks ls : List (Key × D)} {kv lv : List (Key × V)} (h : alikeD ks ls = true) (r1 : KvR K bs H ks kv) (r2 : KvR K bs H ls lv) : kv.length = lv.length ∧ ∀ p ∈ kv, valV lv p.1 = some p.2 ∧ flatB p.2 = true := by
  unfold alikeD at h
  simp only [Bool.and_eq_true, decide_eq_true_eq, List.all_eq_true] at h
  obtain ⟨h1, h2⟩ := h
  refine ⟨by rw [← kvr_len r1, ← kvr_len r2, h1], fun q hq => ?_⟩
  obtain ⟨p, mp, e1, r⟩ := kvr_mem r1 q hq
  have h3 := h2 p mp
  rcases kvr_val r2 p.1 with ⟨z1, z2⟩ | ⟨d, v, z1, z2, z3⟩
  · rw [z1] at h3; cases h3
  · rw [z1] at h3
    simp only [Bool.and_eq_true, decide_eq_true_eq] at h3
    obtain ⟨e2, e3⟩ := flat_eq h3.1 h3.2 r z3
    rw [← e1, z2, e2]
    exact ⟨rfl, e3⟩
theorem og_eq2 (hu : X.A.units + 64 < cLine) : OpG X cl (compareOp .Eq) dEq2 := by
  obtain ⟨r, h1, h2⟩ := og_eq (X := X) (cl := cl) hu
  refine ⟨_, h1.or (op_eq_dictA (by omega)), ?_⟩
  intro W bs s H x y v w Q S r1 r2 h
  cases q1 : dkWr s x with
  | none => exact .inl (h2 W bs s H x y v w Q S r1 r2 (Run.same (by unfold dEq2; simp only [q1]) h))
  | some ks =>
    cases q2 : dkWr s y with
    | none => exact .inl (h2 W bs s H x y v w Q S r1 r2 (Run.same (by unfold dEq2; simp only [q1, q2]) h))
    | some ls =>
      obtain ⟨_, a, kv, _, _, rfl, _, f2, f3⟩ := dk_wr S r1 q1
      obtain ⟨_, b, lv, _, _, rfl, _, f5, f6⟩ := dk_wr S r2 q2
      by_cases c : alikeD ks ls = true
      · obtain ⟨e1, e2⟩ := alike_ok c f3 f6
        exact .inr ⟨a, b, kv, lv, rfl, rfl, f2, f5, e1, e2, h.of_ok (a := .bl true) (t := s) (by unfold dEq2; simp only [q1, q2]; rw [if_pos c]) bs H (Gr.refl _ _) S _ (.bl _)⟩
      · exact (Run.of_no h (by unfold dEq2; simp only [q1, q2]; rw [if_neg c])).elim
theorem og_ne2 (hu : X.A.units + 64 < cLine) : OpG X cl (compareOp .NotEq) dNe2 := by
  obtain ⟨r, h1, h2⟩ := og_ne (X := X) (cl := cl) hu
  refine ⟨_, h1.or (op_ne_dictA (by omega)), ?_⟩
  intro W bs s H x y v w Q S r1 r2 h
  cases q1 : dkWr s x with
  | none => exact .inl (h2 W bs s H x y v w Q S r1 r2 (Run.same (by unfold dNe2; simp only [q1]) h))
  | some ks =>
    cases q2 : dkWr s y with
    | none => exact .inl (h2 W bs s H x y v w Q S r1 r2 (Run.same (by unfold dNe2; simp only [q1, q2]) h))
    | some ls =>
      obtain ⟨_, a, kv, _, _, rfl, _, f2, f3⟩ := dk_wr S r1 q1
      obtain ⟨_, b, lv, _, _, rfl, _, f5, f6⟩ := dk_wr S r2 q2
      by_cases c : alikeD ks ls = true
      · obtain ⟨e1, e2⟩ := alike_ok c f3 f6
        exact .inr ⟨a, b, kv, lv, rfl, rfl, f2, f5, e1, e2, h.of_ok (a := .bl false) (t := s) (by unfold dNe2; simp only [q1, q2]; rw [if_pos c]) bs H (Gr.refl _ _) S _ (.bl _)⟩
      · exact (Run.of_no h (by unfold dNe2; simp only [q1, q2]; rw [if_neg c])).elim
/-! loops over the keys of a dict: it is locked meanwhile -/
theorem itOf_k {K : PySem.W.Frag} {j : Nat} {p : Addr} {od : Obj} {ws : List (Key × V)} {b0 : List Addr} {H0 : Hp} (hb : b0[j]? = some p) (hp : H0 p = some (.frz od (.dK ws))) : ItOf K cl (.dkeys j) b0 H0 (Itk p od ws) := by
  intro bs s H all g S e i
  have hp' := g.fz _ _ _ hp
  have e : (match s[j]? with | some (.fd kvs) => some (kvs.map fun kv => keyD kv.1) | _ => none) = some all := e
  cases q : s[j]? with
  | none => simp only [q] at e; cases e
  | some m =>
    cases m with
    | fd kvs =>
      simp only [q] at e
      cases e
      obtain ⟨p', o, f1, f2, f3⟩ := S.at_ _ _ q
      rw [g.at hb] at f1
      cases f1
      rw [hp'] at f2
      cases f2
      have f3 : KvR K bs H kvs ws := f3
      have hl := kvr_len f3
      rw [List.length_map]
      refine ⟨fun hi => ⟨⟨hp', by omega⟩, fun x H' y => ?_⟩, fun hi => ⟨hp', by omega⟩⟩
      obtain ⟨rfl, k, v, e1, rfl⟩ := y
      refine ⟨Gr.refl _ _, S, keyD k, ?_, ?_⟩
      · have h2 : ∀ {ps : List (Key × D)} {qs : List (Key × V)}, KvR K bs H' ps qs → ∀ i : Nat, qs[i]? = some (k, v) → (ps.map fun kv => keyD kv.1)[i]? = some (keyD k) := by
          intro ps qs r
          unfold KvR at r
          induction r with
          | nil => intro i h; simp at h
          | cons h t ih =>
            intro i h'
            cases i with
            | zero => simp at h'; subst h'; simp [h.1]
            | succ n => simpa using ih n (by simpa using h')
        exact h2 f3 i e1
      · cases k with
        | inl i => exact .int i
        | inr z => exact .str z
    | _ => simp only [q] at e; cases e
theorem i_keysF {x : Str} (i : Nat) {tg : Expr} (hN : X.N[i]? = some x := by rfl) (hv : Vis X.env.scope x := by first | exact Or.inl rfl | exact Or.inr (Or.inl rfl) | exact Or.inr (Or.inr rfl)) (hd : (x == ("__debug__" : Str)) = false := by decide) (hcd : (x == ("__classdict__" : Str)) = false := by decide) : SI X cl W tg (.Name x p) (iKeysF i) :=
  PI.imp (pi_keys (pe_var hN hv hd hcd)) fun σ H R ⟨bs, s, e, S, N, h⟩ => by
    cases q : sl e i with
    | none => exact (Run.of_no h (by unfold iKeysF; simp only [q])).elim
    | some d =>
      cases d with
      | box j =>
        cases q2 : s[j]? with
        | none => exact (Run.of_no h (by unfold iKeysF; simp only [q, q2])).elim
        | some m =>
          cases m with
          | fd kvs =>
            obtain ⟨p, o, f1, f2, f3⟩ := S.at_ _ _ q2
            cases o with
            | frz od u =>
              cases u with
              | dK ws =>
                obtain ⟨v, h1, r⟩ := N.at_ i _ (sl_get.mp q)
                cases r with
                | box hb =>
                  rw [f1] at hb
                  cases hb
                  exact ⟨_, h1, _, od, rfl, .inl ⟨ws, f2, h.of_ok (a := .dkeys j) (t := s) (by unfold iKeysF; simp only [q, q2]) bs H (Gr.refl _ _) S _ (itOf_k f1 f2)⟩⟩
              | _ => exact (show False from f3).elim
            | _ => exact (show False from f3).elim
          | _ => exact (Run.of_no h (by unfold iKeysF; simp only [q, q2])).elim
      | _ => exact (Run.of_no h (by unfold iKeysF; simp only [q])).elim
theorem StR.unlock {K : PySem.W.Frag} {bs : List Addr} {t : Sto} {H : Hp} {j : Nat} {p : Addr} {kvs : List (Key × D)} {ws : List (Key × V)} (S : StR K cl bs t H) (hp : bs[j]? = some p) (hq : t[j]? = some (.fd kvs)) (hH : ∃ od, H p = some (.frz od (.dK ws))) : StR K cl bs (t.set j (.dk kvs)) (upd H p (.dK ws)) := by
  have eh : ∀ a o, hid bs H a = some o → hid bs (upd H p (.dK ws)) a = some o := fun a o e => by
    obtain ⟨n, e⟩ := hid_some e
    refine hid_of n ?_
    rw [upd_ne (fun q => n (by rw [q]; exact List.mem_of_getElem? hp))]
    exact e
  obtain ⟨p', o', f1, f2, f3⟩ := S.at_ _ _ hq
  rw [hp] at f1
  cases f1
  obtain ⟨od, hH⟩ := hH
  rw [hH] at f2
  cases f2
  have f3 : KvR K bs H kvs ws := f3
  refine ⟨by simp [S.len], S.nd, fun i m' e => ?_⟩
  by_cases hi : i = j
  · subst hi
    have hl : i < t.length := by rw [← S.len]; exact (List.getElem?_eq_some_iff.mp hp).1
    rw [List.getElem?_set_self hl] at e
    cases e
    exact ⟨p, _, hp, upd_same, MoR.up (m := .dk kvs) (o := .dK ws) eh (fun _ _ z => z) f3⟩
  · rw [List.getElem?_set_ne (Ne.symm hi)] at e
    obtain ⟨q, u, hq, hu, r'⟩ := S.at_ i m' e
    have ne : q ≠ p := fun z => by
      subst z
      obtain ⟨h1, e1⟩ := List.getElem?_eq_some_iff.mp hq
      obtain ⟨h2, e2⟩ := List.getElem?_eq_some_iff.mp hp
      exact hi ((List.getElem_inj S.nd).mp (e1.trans e2.symm))
    exact ⟨q, u, hq, by rw [upd_ne ne]; exact hu, r'.up eh fun _ _ z => z⟩
/-- from ahead of the lock to behind it -/
theorem gr_unlock {bs b1 : List Addr} {H H1 : Hp} {p : Addr} {od : Obj} {ws : List (Key × V)} (hp : p ∈ bs) (h : H p = some (.dK ws)) (g : Gr bs (upd H p (.frz od (.dK ws))) b1 H1) : Gr bs H b1 (upd H1 p (.dK ws)) := ⟨g.pre, (fun a o e n => by
  have ne : a ≠ p := fun q => n (by rw [q]; exact hp)
  obtain ⟨h1, h2⟩ := g.keep a o (by rw [upd_ne ne]; exact e) n
  exact ⟨by rw [upd_ne ne]; exact h1, h2⟩), fun a ob x e => by
  have ne : a ≠ p := fun q => by subst q; rw [h] at e; cases e
  rw [upd_ne ne]
  exact g.fz a ob x (by rw [upd_ne ne]; exact e)⟩
theorem EnR.fz {K : PySem.W.Frag} {bs : List Addr} {H : Hp} {p : Addr} {o : HO} {e : En} {σ : L2.St} (N : EnR K bs H e σ) (hp : p ∈ bs) : EnR K bs (upd H p o) e σ := ⟨N.len, fun i d q => by
  obtain ⟨v, h1, r⟩ := N.at_ i d q
  refine ⟨v, h1, r.up (fun a o e => ?_) fun _ _ z => z⟩
  obtain ⟨n, e⟩ := hid_some e
  refine hid_of n ?_
  rw [upd_ne (fun q => n (by rw [q]; exact hp))]
  exact e⟩
theorem up_eh {bs : List Addr} {H : Hp} {p : Addr} {o : HO} (hp : p ∈ bs) : ∀ a u, hid bs H a = some u → hid bs (upd H p o) a = some u := fun a u e => by
  obtain ⟨n, e⟩ := hid_some e
  refine hid_of n ?_
  rw [upd_ne (fun q => n (by rw [q]; exact hp))]
  exact e
/-- what stands at a lock's begin -/
theorem lock_at {K : PySem.W.Frag} {bs : List Addr} {s : Sto} {H : Hp} {j : Nat} {kvs : List (Key × D)} (S : StR K cl bs s H) (q : s[j]? = some (.dk kvs)) : ∃ p ws, bs[j]? = some p ∧ H p = some (.dK ws) ∧ ∀ od, Gr bs H bs (upd H p (.frz od (.dK ws))) ∧ StR K cl bs (s.set j (.fd kvs)) (upd H p (.frz od (.dK ws))) := by
  obtain ⟨p, o, f1, f2, f3⟩ := S.at_ _ _ q
  cases o with
  | dK ws => exact ⟨p, ws, f1, f2, fun od => ⟨gr_write f1 f2, S.write f1 f2 (m := .fd kvs) (o := .frz od (.dK ws)) f3⟩⟩
  | _ => exact (show False from f3).elim
theorem ss_lock {st : Stmt} {i : Nat} {c : CS} (h : SS X cl W st c) : SS X cl W st (sLock i c) := PS.imp (ps_lock h) fun E σ H ⟨bs, s, e, S, N, h⟩ => by
  cases q : sl e i with
  | none => exact (Run.of_no h (by unfold sLock; simp only [q])).elim
  | some d =>
    cases d with
    | box j =>
      cases q2 : s[j]? with
      | none => exact (Run.of_no h (by unfold sLock; simp only [q, q2])).elim
      | some m =>
        cases m with
        | dk kvs =>
          obtain ⟨p, ws, f1, f2, lk⟩ := lock_at S q2
          refine ⟨p, .dK ws, f2, trivial, fun od => ?_⟩
          obtain ⟨g1, S1⟩ := lk od
          refine ⟨bs, _, e, S1, N.fz (List.mem_of_getElem? f1), ?_⟩
          unfold Run at h ⊢
          unfold sLock at h
          simp only [q, q2] at h
          cases q3 : c e (s.set j (.fd kvs)) with
          | no => rw [q3] at h; exact h
          | ex cc fs t => rw [q3] at h; exact h.elim
          | ok fl t =>
            rw [q3] at h
            by_cases cc : t[j]? = some (.fd kvs) ∧ (∀ c fs e', fl ≠ .ex c fs e')
            · simp only [if_pos cc] at h
              intro b1 H1 g2 S2
              have hf : H1 p = some (.frz od (.dK ws)) := g2.fz _ _ _ upd_same
              have hb := g2.at f1
              have S3 := S2.unlock hb cc.1 ⟨od, hf⟩
              have k := h b1 _ (gr_unlock (List.mem_of_getElem? f1) f2 g2) S3
              have up := up_eh (H := H1) (o := .dK ws) (List.mem_of_getElem? hb)
              cases fl with
              | nx e' => exact fun σ' N' => ⟨hf, k σ' (N'.fz (List.mem_of_getElem? hb))⟩
              | rt d => exact fun v r => ⟨hf, k v (r.up up fun _ _ z => z)⟩
              | bk e' => exact fun σ' N' => ⟨hf, k σ' (N'.fz (List.mem_of_getElem? hb))⟩
              | ct e' => exact fun σ' N' => ⟨hf, k σ' (N'.fz (List.mem_of_getElem? hb))⟩
              | ex c fs e' => exact absurd rfl (cc.2 c fs e')
            · simp only [if_neg cc] at h
        | _ => exact (Run.of_no h (by unfold sLock; simp only [q, q2])).elim
    | _ => exact (Run.of_no h (by unfold sLock; simp only [q])).elim
theorem l_lock {ex : Expr} {i : Nat} {c : CA} (h : SL X cl W ex c) : SL X cl W ex (aLock i c) := PE.imp (pe_lock h) fun σ H Q ⟨bs, s, e, S, N, h⟩ => by
  cases q : sl e i with
  | none => exact (Run.of_no h (by unfold aLock; simp only [q])).elim
  | some d =>
    cases d with
    | box j =>
      cases q2 : s[j]? with
      | none => exact (Run.of_no h (by unfold aLock; simp only [q, q2])).elim
      | some m =>
        cases m with
        | dk kvs =>
          obtain ⟨p, ws, f1, f2, lk⟩ := lock_at S q2
          refine ⟨p, .dK ws, f2, trivial, fun od => ?_⟩
          obtain ⟨g1, S1⟩ := lk od
          refine ⟨bs, _, e, S1, N.fz (List.mem_of_getElem? f1), ?_⟩
          unfold Run at h ⊢
          unfold aLock at h
          simp only [q, q2] at h
          cases q3 : c e (s.set j (.fd kvs)) with
          | no => rw [q3] at h; exact h
          | ex cc fs t => rw [q3] at h; exact h.elim
          | ok ds t =>
            rw [q3] at h
            by_cases cc : t[j]? = some (.fd kvs)
            · simp only [if_pos cc] at h
              intro b1 H1 g2 S2 np vs hn r
              have hf : H1 p = some (.frz od (.dK ws)) := g2.fz _ _ _ upd_same
              have hb := g2.at f1
              have ne : p ≠ np := ne_of_none hf hn
              have S3 := S2.unlock hb cc ⟨od, hf⟩
              have k := h b1 _ (gr_unlock (List.mem_of_getElem? f1) f2 g2) S3 np vs (by rw [upd_ne ne.symm]; exact hn) (r.up (up_eh (List.mem_of_getElem? hb)) fun _ _ z => z)
              refine ⟨by rw [upd_ne ne]; exact hf, ?_⟩
              have e1 : upd (upd H1 np (.lst vs)) p (.dK ws) = upd (upd H1 p (.dK ws)) np (.lst vs) := by
                funext a
                by_cases z1 : a = p
                · subst z1; rw [upd_same, upd_ne ne, upd_same]
                · by_cases z2 : a = np
                  · subst z2; rw [upd_ne z1, upd_same, upd_same]
                  · rw [upd_ne z1, upd_ne z2, upd_ne z2, upd_ne z1]
              rw [e1]
              exact k
            · simp only [if_neg cc] at h
        | _ => exact (Run.of_no h (by unfold aLock; simp only [q, q2])).elim
    | _ => exact (Run.of_no h (by unfold aLock; simp only [q])).elim
end
end G

set_option Elab.async false
set_option linter.all false
set_option maxRecDepth 100000
set_option maxHeartbeats 4000000
/-! G, the wp of each combinator; what comes behind is locked: the simplifier does not enter it (an argument's type depends on it). -/
namespace G
open PySem L2

inductive Lk1 {α : Sort _} (a : α) : Type | u
inductive Lk2 {α β : Sort _} (a : α) (b : β) : Type | u
inductive Lk5 {α β γ δ ε : Sort _} (a : α) (b : β) (c : γ) (d : δ) (e : ε) : Type | u
abbrev XP := Str → List (Str × D) → Sto → Prop
abbrev NX : XP := fun _ _ _ => False
def wp {α : Type} (m : Cm α) (s : Sto) (Q : α → Sto → Prop) (E : XP) (_ : Lk2 Q E := .u) : Prop := match m s with
  | .ok a t => Q a t
  | .ex c fs t => E c fs t
  | .no => False
/-- a branch -/
def sel (b : Bool) (A B : Prop) (_ : Lk2 A B := .u) : Prop := if b = true then A else B
/-- a guard -/
def gd (p A : Prop) (_ : Lk1 A := .u) : Prop := p ∧ A
def onBl (d : D) (k : Bool → Prop) (_ : Lk1 k := .u) : Prop := match d with
  | .bl b => k b
  | _ => False
def onInt (d : D) (k : Int → Prop) (_ : Lk1 k := .u) : Prop := match d with
  | .int b => k b
  | _ => False
def onTup (d : D) (k : List D → Prop) (_ : Lk1 k := .u) : Prop := match d with
  | .tup b => k b
  | _ => False
/-- a number that was reckoned: the simplifier enters it ahead of what comes behind -/
def vI (i : Int) (k : Int → Prop) (_ : Lk1 k := .u) : Prop := k i
@[simp] theorem vI_k {i : Int} {k : Int → Prop} {u : Lk1 k} : vI i k u = k i := propext Iff.rfl
/-- a slot is written -/
def stK (e : En) (i : Nat) (d : Option D) (k : En → Prop) (_ : Lk1 k := .u) : Prop := k (st e i d)
@[simp ↓] theorem stK_0 {x d : Option D} {r : En} {k : En → Prop} {u : Lk1 k} : stK (x :: r) 0 d k u = k (d :: r) := propext Iff.rfl
@[simp ↓] theorem stK_s {x d : Option D} {r : En} {n : Nat} {k : En → Prop} {u : Lk1 k} : stK (x :: r) (n + 1) d k u = stK r n d fun r' => k (x :: r') := propext Iff.rfl
/-- targets of an unpacking -/
def stw (e : En) (is : List Nat) (ds : List D) (k : En → Prop) (_ : Lk1 k := .u) : Prop := match stAll e is ds with
  | some e' => k e'
  | none => False
def withT (t : Tg) (x : D) (e : En) (k : En → Prop) (_ : Lk1 k := .u) : Prop := match bindT t x e with
  | some e' => k e'
  | none => False
/-- one of a row -/
def atK (xs : List D) (i : Int) (k : D → Prop) (_ : Lk1 k := .u) : Prop := match atI xs i with
  | some v => k v
  | none => False
/-- texts that are written -/
theorem ofString_inj {a b : String} (h : Str.ofString a = Str.ofString b) : a = b := by
  rw [Str.ofString_eq_toList, Str.ofString_eq_toList] at h
  have h2 : a.toList.map Char.toNat = b.toList.map Char.toNat := by simpa using h
  have h3 : a.toList = b.toList := by
    refine List.map_inj_right ?_ |>.mp h2
    intro x y e
    exact Char.toNat_inj.mp e
  exact String.toList_inj.mp h3
@[simp] theorem str_eq {a b : String} : (Str.ofString a = Str.ofString b) = (a = b) := propext ⟨ofString_inj, fun h => by rw [h]⟩
/-- a power of two -/
def p2 (z : Int) : Int := 2 ^ z.toNat
@[simp] theorem p2_pos {z : Int} : 0 < p2 z := Int.pow_pos (by decide)
@[simp] theorem p2_lit {n : Nat} : p2 (no_index (OfNat.ofNat n)) = 2 ^ n := rfl
@[simp] theorem p2_0 : p2 0 = 1 := rfl
@[simp] theorem p2_1 : p2 1 = 2 := rfl
/-- slots that are put in order ahead of what comes behind -/
def onE (e : En) (k : En → Prop) (_ : Lk1 k := .u) : Prop := k e
@[simp] theorem onE_k {e : En} {k : En → Prop} {u : Lk1 k} : onE e k u = k e := propext Iff.rfl
theorem onE_e {e : En} {k : En → Prop} {u : Lk1 k} (h : onE e k u) : k e := h
/-- what an invariant asks: left as it is -/
def dn (p : Prop) (_ : Lk1 p := .u) : Prop := p
theorem dn_i {p : Prop} {u : Lk1 p} (h : p) : dn p u := h
theorem dn_e {p : Prop} {u : Lk1 p} (h : dn p u) : p := h
section
variable {A B : Prop} {u2 : Lk2 A B} {u1 : Lk1 A}
@[simp] theorem sel_true : sel true A B u2 = A := by unfold sel; simp
@[simp] theorem sel_false : sel false A B u2 = B := by unfold sel; simp
@[simp] theorem sel_not {b : Bool} : sel (!b) A B u2 = sel b B A := by cases b <;> simp [sel]
@[simp] theorem sel_or {b c : Bool} : sel (b || c) A B u2 = sel b A (sel c A B) := by cases b <;> simp [sel]
@[simp] theorem sel_and {b c : Bool} : sel (b && c) A B u2 = sel b (sel c A B) B := by cases b <;> simp [sel]
theorem sel_t {p : Prop} {ip : Decidable p} (h : p) (k : A) : sel (decide p) A B u2 := by rw [decide_eq_true h, sel_true]; exact k
theorem sel_f {p : Prop} {ip : Decidable p} (h : ¬ p) (k : B) : sel (decide p) A B u2 := by rw [decide_eq_false h, sel_false]; exact k
theorem sel_i {p : Prop} {ip : Decidable p} (h : p → A) (k : ¬ p → B) : sel (decide p) A B u2 := by
  by_cases c : p
  · exact sel_t c (h c)
  · exact sel_f c (k c)
theorem sel_b {b : Bool} (h : b = true → A) (k : b = false → B) : sel b A B u2 := by
  cases b
  · rw [sel_false]; exact k rfl
  · rw [sel_true]; exact h rfl
@[simp] theorem gd_true : gd True A u1 = A := by unfold gd; simp
theorem gd_i {p : Prop} (h : p) (k : A) : gd p A u1 := ⟨h, k⟩
@[simp ↓] theorem onBl_bl {b : Bool} {k : Bool → Prop} {u : Lk1 k} : onBl (.bl b) k u = k b := propext Iff.rfl
@[simp ↓] theorem onInt_int {b : Int} {k : Int → Prop} {u : Lk1 k} : onInt (.int b) k u = k b := propext Iff.rfl
@[simp ↓] theorem onTup_tup {b : List D} {k : List D → Prop} {u : Lk1 k} : onTup (.tup b) k u = k b := propext Iff.rfl
@[simp ↓] theorem stw_nil {e : En} {k : En → Prop} {u : Lk1 k} : stw e [] [] k u = k e := propext Iff.rfl
@[simp ↓] theorem stw_cons {e : En} {i : Nat} {is : List Nat} {d : D} {ds : List D} {k : En → Prop} {u : Lk1 k} : stw e (i :: is) (d :: ds) k u = stK e i (some d) fun e' => stw e' is ds k := propext Iff.rfl
@[simp ↓] theorem withT_v {i : Nat} {x : D} {e : En} {k : En → Prop} {u : Lk1 k} : withT (.v i) x e k u = stK e i (some x) k := propext Iff.rfl
@[simp ↓] theorem withT_t {is : List Nat} {ds : List D} {e : En} {k : En → Prop} {u : Lk1 k} : withT (.t is) (.tup ds) e k u = stw e is ds k := propext Iff.rfl
theorem atK_i {xs : List D} {i : Int} {v : D} {k : D → Prop} {u : Lk1 k} (h : atI xs i = some v) (q : k v) : atK xs i k u := by unfold atK; rw [h]; exact q
end
theorem atI_lt {α : Type} {xs : List α} {i : Int} (h0 : 0 ≤ i) (h1 : i < xs.length) : ∃ v, atI xs i = some v ∧ v ∈ xs := by
  obtain ⟨n, rfl⟩ := Int.eq_ofNat_of_zero_le h0
  have hn : n < xs.length := by omega
  exact ⟨xs[n], atI_nat (by simp [hn]), List.getElem_mem hn⟩
theorem atK_all {xs : List D} {i : Int} {k : D → Prop} {u : Lk1 k} (h0 : 0 ≤ i) (h1 : i < xs.length) (q : ∀ x ∈ xs, k x) : atK xs i k u := by
  obtain ⟨v, e, m⟩ := atI_lt h0 h1
  exact atK_i e (q v m)
theorem atK_int (P : Int → Prop) {xs : List D} {i : Int} {k : D → Prop} {u : Lk1 k} (h0 : 0 ≤ i) (h1 : i < xs.length) (h : ∀ x ∈ xs, ∃ z, x = .int z ∧ P z) (q : ∀ z, P z → k (.int z)) : atK xs i k u :=
  atK_all h0 h1 fun x hx => by
    obtain ⟨z, rfl, hz⟩ := h x hx
    exact q z hz
theorem atK_2 {x y : D} {i : Int} {k : D → Prop} {u : Lk1 k} (h0 : 0 ≤ i) (h1 : i < 2) (q0 : i = 0 → k x) (q1 : i = 1 → k y) : atK [x, y] i k u := by
  by_cases c : i = 0
  · subst c; exact q0 rfl
  · have c1 : i = 1 := by omega
    subst c1; exact q1 rfl
theorem atK_if {x y : D} {p : Prop} {ip : Decidable p} {k : D → Prop} {u : Lk1 k} (h : p → k y) (h' : ¬ p → k x) : atK [x, y] (if p then 1 else 0) k u := by
  by_cases c : p
  · rw [if_pos c]; exact h c
  · rw [if_neg c]; exact h' c
theorem atK_min {a b : Int} {k : D → Prop} {u : Lk1 k} (h : k (.int (min a b))) : atK [.int a, .int b] (if b < a then 1 else 0) k u :=
  atK_if (fun c => by rw [Int.min_eq_right (by omega)] at h; exact h) (fun c => by rw [Int.min_eq_left (by omega)] at h; exact h)
section
variable {e : En} {s : Sto} {Q : D → Sto → Prop} {E : XP} {u : Lk2 Q E}
@[simp ↓] theorem wp_bnd {α β : Type} {m : Cm α} {f : α → Cm β} {s : Sto} {Q : β → Sto → Prop} {E : XP} {u : Lk2 Q E} : wp (bnd m f) s Q E u = wp m s (fun a t => wp (f a) t Q E) E := by
  unfold wp bnd
  cases m s <;> rfl
@[simp ↓] theorem wp_ret {α : Type} {a : α} {s : Sto} {Q : α → Sto → Prop} {E : XP} {u : Lk2 Q E} : wp (ret a) s Q E u = Q a s := propext Iff.rfl
theorem wp_mono {α : Type} {m : Cm α} {s : Sto} {Q Q' : α → Sto → Prop} {E E' : XP} (h : wp m s Q E) (hq : ∀ a t, Q a t → Q' a t) (he : ∀ c fs t, E c fs t → E' c fs t) : wp m s Q' E' := by
  unfold wp at *
  cases e : m s with
  | ok a t => rw [e] at h; exact hq _ _ h
  | ex c fs t => rw [e] at h; exact he _ _ _ h
  | no => rw [e] at h; exact h
@[simp ↓] theorem wp_pur {α : Type} {m : Cm α} {s : Sto} {Q : α → Sto → Prop} {E : XP} {u : Lk2 Q E} : wp (pur m) s Q E u = wp m s Q NX := by
  unfold wp pur
  cases m s <;> rfl
theorem wp_sel {α : Type} {b : Bool} {x y : Cm α} {s : Sto} {Q : α → Sto → Prop} {E : XP} {u : Lk2 Q E} : wp (if b = true then x else y) s Q E u = sel b (wp x s Q E) (wp y s Q E) := by
  cases b
  · rw [sel_false]; rfl
  · rw [sel_true]; rfl
theorem wp_guard {α : Type} {c : Prop} [Decidable c] {m : Cm α} {s : Sto} {P : α → Sto → Prop} {E : XP} {u : Lk2 P E} : wp (if c then m else noC) s P E u = gd c (wp m s P E) := by
  unfold gd
  by_cases h : c
  · rw [if_pos h]; simp [h]
  · rw [if_neg h]; simp [h]; exact fun z => z
/-! ### statements by their ways out -/
def ws (c : CS) (e : En) (s : Sto) (N : En → Sto → Prop) (Rt : D → Sto → Prop) (B C : En → Sto → Prop) (E : XP) (_ : Lk5 N Rt B C E := .u) : Prop := wp (c e) s (fun fl t => match fl with
  | .nx e' => N e' t
  | .rt d => Rt d t
  | .bk e' => B e' t
  | .ct e' => C e' t
  | .ex c fs _ => E c fs t) NX
abbrev NE : En → Sto → Prop := fun _ _ => False
variable {N B C : En → Sto → Prop} {Rt : D → Sto → Prop} {v : Lk5 N Rt B C E}
theorem wp_lft {α : Type} {m : Cm α} {k : α → Cm Fl} {P : Fl → Sto → Prop} {u : Lk2 P NX} : wp (lft e m k) s P NX u = wp m s (fun a t => wp (k a) t P NX) (fun c fs t => P (.ex c fs e) t) := by
  unfold wp lft
  cases m s <;> rfl
@[simp ↓] theorem ws_nil : ws sNil e s N Rt B C E v = N e s := propext Iff.rfl
theorem wp_congr {α : Type} {m : Cm α} {s : Sto} {Q Q' : α → Sto → Prop} {E : XP} (h : ∀ a t, Q a t = Q' a t) : wp m s Q E = wp m s Q' E := by
  have : Q = Q' := by funext a t; exact h a t
  subst this
  rfl
@[simp ↓] theorem ws_seq {a b : CS} : ws (sSeq a b) e s N Rt B C E v = ws a e s (fun e' t => ws b e' t N Rt B C E) Rt B C E := by
  unfold ws sSeq
  rw [wp_bnd]
  exact wp_congr fun fl t => by cases fl <;> rfl
@[simp ↓] theorem ws_set {i : Nat} {c : CE} : ws (sSet i c) e s N Rt B C E v = wp (c e) s (fun d t => stK e i (some d) fun e' => N e' t) E := by
  unfold ws sSet
  rw [wp_lft]
  rfl
@[simp ↓] theorem ws_drop {c : CE} : ws (sDrop c) e s N Rt B C E v = wp (c e) s (fun d t => N e t) E := by
  unfold ws sDrop
  rw [wp_lft]
  rfl
@[simp ↓] theorem ws_ret {c : CE} : ws (sRet c) e s N Rt B C E v = wp (c e) s (fun d t => Rt d t) E := by
  unfold ws sRet
  rw [wp_lft]
  rfl
@[simp ↓] theorem ws_retN : ws sRetN e s N Rt B C E v = Rt .non s := propext Iff.rfl
@[simp ↓] theorem ws_break : ws sBreak e s N Rt B C E v = B e s := propext Iff.rfl
@[simp ↓] theorem ws_cont : ws sCont e s N Rt B C E v = C e s := propext Iff.rfl
@[simp ↓] theorem ws_if {t : CT} {a b : CS} : ws (sIf t a b) e s N Rt B C E v = wp (t e) s (fun c u => sel c (ws a e u N Rt B C E) (ws b e u N Rt B C E)) E := by
  unfold ws sIf
  rw [wp_lft]
  exact wp_congr fun c u => by
    cases c
    · rw [sel_false]; rfl
    · rw [sel_true]; rfl
theorem ws_aug {i : Nat} {f : D → D → Cm D} {c : CE} {x : D} (h : sl e i = some x) : ws (sAug i f c) e s N Rt B C E v = wp (c e) s (fun y t => wp (f x y) t (fun z u => N (st e i (some z)) u) E) E := by
  unfold ws sAug
  rw [h]
  show wp (lft e (c e) _) s _ _ = _
  rw [wp_lft]
  refine wp_congr fun y t => ?_
  rw [wp_lft]
  rfl
/-- a slot's value -/
def slK (e : En) (i : Nat) (k : D → Prop) (_ : Lk1 k := .u) : Prop := match sl e i with
  | some d => k d
  | none => False
@[simp ↓] theorem slK_0 {x : D} {r : En} {k : D → Prop} {u : Lk1 k} : slK (some x :: r) 0 k u = k x := propext Iff.rfl
@[simp ↓] theorem slK_s {x : Option D} {r : En} {n : Nat} {k : D → Prop} {u : Lk1 k} : slK (x :: r) (n + 1) k u = slK r n k := propext Iff.rfl
@[simp ↓] theorem ws_augW {i : Nat} {f : D → D → Cm D} {c : CE} : ws (sAug i f c) e s N Rt B C E v = slK e i (fun x => wp (c e) s (fun y t => wp (f x y) t (fun z u => stK e i (some z) fun e' => N e' u) E) E) := by
  unfold slK
  cases h : sl e i with
  | some x => exact ws_aug h
  | none => unfold ws sAug; rw [h]; rfl
@[simp ↓] theorem ws_put {f : D → D → D → Cm Unit} {o i w : CE} : ws (sPut f o i w) e s N Rt B C E v = wp (w e) s (fun z t => wp (o e) t (fun x u => wp (i e) u (fun y w => wp (f x y z) w (fun _ r => N e r) E) E) E) E := by
  unfold ws sPut
  rw [wp_lft]
  refine wp_congr fun y t => ?_
  rw [wp_lft]
  refine wp_congr fun y t => ?_
  rw [wp_lft]
  refine wp_congr fun y t => ?_
  rw [wp_lft]
  rfl
@[simp ↓] theorem ws_par {is : List Nat} {c : CA} : ws (sPar is c) e s N Rt B C E v = wp (c e) s (fun ds t => stw e is ds fun e' => N e' t) E := by
  unfold ws sPar
  rw [wp_lft]
  exact wp_congr fun ds t => by
    unfold stw
    cases stAll e is ds <;> rfl
@[simp ↓] theorem ws_unp {is : List Nat} {c : CE} : ws (sUnp is c) e s N Rt B C E v = wp (c e) s (fun d t => onTup d fun ds => stw e is ds fun e' => N e' t) E := by
  unfold ws sUnp
  rw [wp_lft]
  exact wp_congr fun d t => by
    unfold onTup
    cases d <;> first | rfl | skip
    rename_i ds
    simp only [stw]
    cases stAll e is ds <;> rfl
/-- two ways that join -/
theorem ws_mono {c : CS} {N' : En → Sto → Prop} (h : ws c e s N' Rt B C E) (hn : ∀ e' t, N' e' t → N e' t) : ws c e s N Rt B C E v := by
  unfold ws at h ⊢
  refine wp_mono h (fun fl t q => ?_) fun _ _ _ z => z
  cases fl <;> first | exact hn _ _ q | exact q
theorem sel_join {p : Prop} {ip : Decidable p} {a b : CS} {v1 v2 : Lk5 N Rt B C E} {u2 : Lk2 (ws a e s N Rt B C E v1) (ws b e s N Rt B C E v2)} (J : En → Sto → Prop) (k1 : p → ws a e s (fun e' t => dn (J e' t)) Rt B C E) (k2 : ¬ p → ws b e s (fun e' t => dn (J e' t)) Rt B C E) (h : ∀ e' t, J e' t → N e' t) :
    sel (decide p) (ws a e s N Rt B C E v1) (ws b e s N Rt B C E v2) u2 := sel_i (fun c => ws_mono (k1 c) h) (fun c => ws_mono (k2 c) h)
/-! ### expressions -/
@[simp ↓] theorem wp_cK {d : D} : wp (cK d e) s Q E u = Q d s := propext Iff.rfl
@[simp ↓] theorem wp_cW {i : Nat} : wp (cV i e) s Q E u = slK e i fun d => Q d s := by
  unfold cV slK
  cases sl e i <;> rfl
@[simp ↓] theorem wp_cBin {f : D → D → Cm D} {a b : CE} : wp (cBin f a b e) s Q E u = wp (a e) s (fun x t => wp (b e) t (fun y u => wp (f x y) u Q E) E) E := by
  unfold cBin
  rw [wp_bnd]
  exact wp_congr fun x t => wp_bnd
@[simp ↓] theorem wp_cUn {f : D → Cm D} {a : CE} : wp (cUn f a e) s Q E u = wp (a e) s (fun x t => wp (f x) t Q E) E := by
  unfold cUn
  simp only [wp_bnd]
@[simp ↓] theorem wp_cCall {g : List D → Cm D} {a : CA} : wp (cCall g a e) s Q E u = wp (a e) s (fun xs t => wp (g xs) t Q E) E := by
  unfold cCall
  simp only [wp_bnd]
@[simp ↓] theorem wp_aNil {P : List D → Sto → Prop} {u : Lk2 P E} : wp (aNil e) s P E u = P [] s := propext Iff.rfl
@[simp ↓] theorem wp_aCons {a : CE} {r : CA} {P : List D → Sto → Prop} {u : Lk2 P E} : wp (aCons a r e) s P E u = wp (a e) s (fun x t => wp (r e) t (fun xs u => P (x :: xs) u) E) E := by
  unfold aCons
  rw [wp_bnd]
  exact wp_congr fun x t => by rw [wp_bnd]; rfl
@[simp ↓] theorem wp_cTup {a : CA} : wp (cTup a e) s Q E u = wp (a e) s (fun xs t => gd (xs.length ≤ big) (Q (.tup xs) t)) E := by
  unfold cTup
  rw [wp_bnd]
  exact wp_congr fun x t => by rw [wp_guard]; rfl
@[simp ↓] theorem wp_cLst {a : CA} : wp (cLst a e) s Q E u = wp (a e) s (fun xs t => gd (xs.length ≤ big) (wp (alloc (.lst xs)) t Q E)) E := by
  unfold cLst
  rw [wp_bnd]
  exact wp_congr fun x t => wp_guard
@[simp ↓] theorem wp_tE {a : CE} {P : Bool → Sto → Prop} {u : Lk2 P E} : wp (tE a e) s P E u = wp (a e) s (fun x t => onBl x fun b => P b t) E := by
  unfold tE
  rw [wp_bnd]
  exact wp_congr fun x t => by cases x <;> rfl
@[simp ↓] theorem wp_tNot {a : CT} {P : Bool → Sto → Prop} {u : Lk2 P E} : wp (tNot' a e) s P E u = wp (a e) s (fun b t => P (!b) t) E := by
  unfold tNot'
  rw [wp_bnd]
  rfl
@[simp ↓] theorem wp_tAnd {a b : CT} {P : Bool → Sto → Prop} {u : Lk2 P E} : wp (tAnd' a b e) s P E u = wp (a e) s (fun c t => sel c (wp (b e) t P E) (P false t)) E := by
  unfold tAnd'
  rw [wp_bnd]
  exact wp_congr fun c t => by rw [wp_sel]; rfl
@[simp ↓] theorem wp_tOr {a b : CT} {P : Bool → Sto → Prop} {u : Lk2 P E} : wp (tOr' a b e) s P E u = wp (a e) s (fun c t => sel c (P true t) (wp (b e) t P E)) E := by
  unfold tOr'
  rw [wp_bnd]
  exact wp_congr fun c t => by rw [wp_sel]; rfl
@[simp ↓] theorem wp_cAnd {a b : CE} : wp (cAnd a b e) s Q E u = wp (a e) s (fun x t => onBl x fun c => sel c (wp (b e) t Q E) (Q (.bl false) t)) E := by
  unfold cAnd
  rw [wp_bnd]
  exact wp_congr fun c t => by
    cases c <;> first | rfl | skip
    rename_i c
    show wp (if c = true then b e else ret (.bl false)) t Q E = _
    rw [wp_sel]; rfl
@[simp ↓] theorem wp_cOr {a b : CE} : wp (cOr a b e) s Q E u = wp (a e) s (fun x t => onBl x fun c => sel c (Q (.bl true) t) (wp (b e) t Q E)) E := by
  unfold cOr
  rw [wp_bnd]
  exact wp_congr fun c t => by
    cases c <;> first | rfl | skip
    rename_i c
    show wp (if c = true then ret (.bl true) else b e) t Q E = _
    rw [wp_sel]; rfl
@[simp ↓] theorem wp_cNot {a : CE} : wp (cNot a e) s Q E u = wp (a e) s (fun x t => onBl x fun c => Q (.bl (!c)) t) E := by
  unfold cNot
  rw [wp_bnd]
  exact wp_congr fun c t => by cases c <;> rfl
@[simp ↓] theorem wp_cIf {t : CT} {a b : CE} : wp (cIf t a b e) s Q E u = wp (t e) s (fun c u => sel c (wp (a e) u Q E) (wp (b e) u Q E)) E := by
  unfold cIf
  rw [wp_bnd]
  exact wp_congr fun c t => wp_sel
@[simp ↓] theorem wp_cChain {f g : D → D → Cm D} {a b c : CE} : wp (cChain f g a b c e) s Q E u = wp (a e) s (fun x t => wp (b e) t (fun y u => wp (f x y) u (fun z v => onBl z fun k => sel k (wp (c e) v (fun w r => wp (g y w) r Q E) E) (Q (.bl false) v)) E) E) E := by
  unfold cChain
  rw [wp_bnd]
  refine wp_congr fun x t => ?_
  rw [wp_bnd]
  refine wp_congr fun y u => ?_
  rw [wp_bnd]
  refine wp_congr fun z v => ?_
  cases z <;> first | rfl | skip
  rename_i k
  rw [onBl_bl]
  show wp (if k = true then bnd (c e) fun w => g y w else ret (.bl false)) v Q E = _
  rw [wp_sel, wp_bnd]
  rfl
@[simp ↓] theorem wp_cChain3 {f g h : D → D → Cm D} {a b c d : CE} : wp (cChain3 f g h a b c d e) s Q E u = wp (a e) s (fun x t => wp (b e) t (fun y u => wp (f x y) u (fun z v => onBl z fun k => sel k (wp (c e) v (fun w r => wp (g y w) r (fun z2 v2 => onBl z2 fun k2 => sel k2 (wp (d e) v2 (fun w2 r2 => wp (h w w2) r2 Q E) E) (Q (.bl false) v2)) E) E) (Q (.bl false) v)) E) E) E := by
  unfold cChain3
  rw [wp_bnd]
  refine wp_congr fun x t => ?_
  rw [wp_bnd]
  refine wp_congr fun y u => ?_
  rw [wp_bnd]
  refine wp_congr fun z v => ?_
  cases z <;> first | rfl | skip
  rename_i k
  rw [onBl_bl]
  refine (wp_sel (b := k)).trans (congrArg (fun z => sel k z _) ?_)
  rw [wp_bnd]
  refine wp_congr fun w r => ?_
  rw [wp_bnd]
  refine wp_congr fun z2 v2 => ?_
  cases z2 <;> first | rfl | skip
  rename_i k2
  rw [onBl_bl]
  refine (wp_sel (b := k2)).trans (congrArg (fun z => sel k2 z _) ?_)
  exact wp_bnd
/-! ### operators at values -/
@[simp ↓] theorem wp_dAdd {i j : Int} : wp (dAdd (.int i) (.int j)) s Q E u = vI (i + j) fun n => Q (.int n) s := propext Iff.rfl
@[simp ↓] theorem wp_iAdd {i j : Int} : wp (iAdd (.int i) (.int j)) s Q E u = vI (i + j) fun n => Q (.int n) s := propext Iff.rfl
@[simp ↓] theorem wp_dAddT {xs ys : List D} : wp (dAdd (.tup xs) (.tup ys)) s Q E u = gd (xs.length + ys.length ≤ big) (Q (.tup (xs ++ ys)) s) := wp_guard
@[simp ↓] theorem wp_dAddS {xs ys : Str} : wp (dAdd (.str xs) (.str ys)) s Q E u = gd (xs.length + ys.length ≤ big) (Q (.str (xs ++ ys)) s) := wp_guard
@[simp ↓] theorem wp_dSub {i j : Int} : wp (dSub (.int i) (.int j)) s Q E u = vI (i - j) fun n => Q (.int n) s := propext Iff.rfl
@[simp ↓] theorem wp_dMul {i j : Int} : wp (dMul (.int i) (.int j)) s Q E u = gd (mulOk i j) (vI (i * j) fun n => Q (.int n) s) := wp_guard
@[simp ↓] theorem wp_dMulT {xs : List D} {k : Int} : wp (dMul (.tup xs) (.int k)) s Q E u = gd (xs ≠ [] ∧ 2 ≤ k ∧ k ≤ 1000 ∧ xs.length ≤ 1000) (Q (.tup (List.replicate k.toNat xs).flatten) s) := wp_guard
@[simp ↓] theorem wp_dDiv {i j : Int} : wp (dDiv (.int i) (.int j)) s Q E u = gd (0 < j ∧ j < 2 ^ 128) (vI (i / j) fun n => Q (.int n) s) := wp_guard
@[simp ↓] theorem wp_dMod {i j : Int} : wp (dMod (.int i) (.int j)) s Q E u = gd (0 < j) (vI (i % j) fun n => Q (.int n) s) := wp_guard
@[simp ↓] theorem wp_dPow {i j : Int} : wp (dPow (.int i) (.int j)) s Q E u = gd (0 ≤ j ∧ j ≤ 1000000 ∧ -(2 ^ 64) < i ∧ i < 2 ^ 64) (vI (i ^ j.toNat) fun n => Q (.int n) s) := wp_guard
@[simp ↓] theorem wp_dShl {i j : Int} : wp (dShl (.int i) (.int j)) s Q E u = gd (0 ≤ j ∧ j ≤ 1000000 ∧ -(2 ^ 64) < i ∧ i < 2 ^ 64) (vI (i * p2 j) fun n => Q (.int n) s) := wp_guard
@[simp ↓] theorem wp_dShr {i j : Int} : wp (dShr (.int i) (.int j)) s Q E u = gd (0 ≤ j) (vI (i / p2 j) fun n => Q (.int n) s) := wp_guard
@[simp ↓] theorem wp_dAnd {i j : Int} : wp (dAnd (.int i) (.int j)) s Q E u = Q (.int (Builtin.bitAnd i j)) s := propext Iff.rfl
@[simp ↓] theorem wp_dOr {i j : Int} : wp (dOr (.int i) (.int j)) s Q E u = Q (.int (Builtin.bitOr i j)) s := propext Iff.rfl
@[simp ↓] theorem wp_dXor {i j : Int} : wp (dXor (.int i) (.int j)) s Q E u = Q (.int (Builtin.bitXor i j)) s := propext Iff.rfl
@[simp ↓] theorem wp_dNeg {i : Int} : wp (dNeg (.int i)) s Q E u = vI (-i) fun n => Q (.int n) s := propext Iff.rfl
@[simp ↓] theorem wp_dLt {i j : Int} : wp (dLt (.int i) (.int j)) s Q E u = Q (.bl (decide (i < j))) s := propext Iff.rfl
@[simp ↓] theorem wp_dLe {i j : Int} : wp (dLe (.int i) (.int j)) s Q E u = Q (.bl (decide (i ≤ j))) s := propext Iff.rfl
@[simp ↓] theorem wp_dGt {i j : Int} : wp (dGt (.int i) (.int j)) s Q E u = Q (.bl (decide (j < i))) s := propext Iff.rfl
@[simp ↓] theorem wp_dGe {i j : Int} : wp (dGe (.int i) (.int j)) s Q E u = Q (.bl (decide (j ≤ i))) s := propext Iff.rfl
@[simp ↓] theorem wp_dEqI {i j : Int} : wp (dEq (.int i) (.int j)) s Q E u = Q (.bl (decide (i = j))) s := propext Iff.rfl
@[simp ↓] theorem wp_dNeI {i j : Int} : wp (dNe (.int i) (.int j)) s Q E u = Q (.bl (!decide (i = j))) s := propext Iff.rfl
@[simp ↓] theorem wp_dEqS {i j : Str} : wp (dEq (.str i) (.str j)) s Q E u = Q (.bl (decide (i = j))) s := propext Iff.rfl
@[simp ↓] theorem wp_dNeS {i j : Str} : wp (dNe (.str i) (.str j)) s Q E u = Q (.bl (!decide (i = j))) s := propext Iff.rfl
@[simp ↓] theorem wp_dEqB {i j : Bool} : wp (dEq (.bl i) (.bl j)) s Q E u = Q (.bl (decide (i = j))) s := propext Iff.rfl
@[simp ↓] theorem wp_dNeB {i j : Bool} : wp (dNe (.bl i) (.bl j)) s Q E u = Q (.bl (!decide (i = j))) s := propext Iff.rfl
@[simp ↓] theorem wp_dIsB {i j : Bool} : wp (dIsB (.bl i) (.bl j)) s Q E u = Q (.bl (decide (i = j))) s := propext Iff.rfl
@[simp ↓] theorem wp_dNotB {i j : Bool} : wp (dNotB (.bl i) (.bl j)) s Q E u = Q (.bl (!decide (i = j))) s := propext Iff.rfl
@[simp ↓] theorem wp_dBits {i : Int} : wp (dBits (.int i)) s Q E u = Q (.int (Builtin.Int.intBits i : Nat)) s := propext Iff.rfl
@[simp ↓] theorem wp_dIsN {x : D} : wp (dIsN x) s Q E u = Q (.bl (isNon x)) s := propext Iff.rfl
@[simp ↓] theorem wp_dNotN {x : D} : wp (dNotN x) s Q E u = Q (.bl (!isNon x)) s := propext Iff.rfl
@[simp ↓] theorem wp_bMax {i j : Int} : wp (bMax [.int i, .int j]) s Q E u = vI (max i j) fun n => Q (.int n) s := by
  have e : (if j > i then j else i) = max i j := by split <;> omega
  show Q _ s = _
  rw [e]
  rfl
@[simp ↓] theorem wp_bMin {i j : Int} : wp (bMin [.int i, .int j]) s Q E u = vI (min i j) fun n => Q (.int n) s := by
  have e : (if j < i then j else i) = min i j := by split <;> omega
  show Q _ s = _
  rw [e]
  rfl
@[simp ↓] theorem wp_bAbs {i : Int} : wp (bAbs [.int i]) s Q E u = vI i.natAbs fun n => Q (.int n) s := by
  have e : (if i < 0 then -i else i) = (i.natAbs : Int) := by split <;> omega
  show Q _ s = _
  rw [e]
  rfl
@[simp ↓] theorem wp_bInt {i : Int} : wp (bInt [.int i]) s Q E u = Q (.int i) s := propext Iff.rfl
@[simp ↓] theorem wp_bIntB {i : Bool} : wp (bInt [.bl i]) s Q E u = Q (.int (if i then 1 else 0)) s := propext Iff.rfl
@[simp ↓] theorem wp_bLenT {xs : List D} : wp (bLen [.tup xs]) s Q E u = Q (.int xs.length) s := propext Iff.rfl
@[simp ↓] theorem wp_bLenL {xs : List D} : wp (bLen [.lst xs]) s Q E u = Q (.int xs.length) s := propext Iff.rfl
@[simp ↓] theorem wp_bLenS {z : Str} : wp (bLen [.str z]) s Q E u = gd (z.length ≤ big) (Q (.int z.length) s) := by
  unfold wp bLen gd
  by_cases c : z.length ≤ big
  · simp [itemsOf, c]
  · simp [itemsOf, c]
@[simp ↓] theorem wp_bListT {xs : List D} : wp (bList [.tup xs]) s Q E u = wp (alloc (.lst xs)) s Q E := propext Iff.rfl
@[simp ↓] theorem wp_bListL {xs : List D} : wp (bList [.lst xs]) s Q E u = wp (alloc (.lst xs)) s Q E := propext Iff.rfl
@[simp ↓] theorem wp_bTupleT {xs : List D} : wp (bTuple [.tup xs]) s Q E u = Q (.tup xs) s := propext Iff.rfl
@[simp ↓] theorem wp_bTupleL {xs : List D} : wp (bTuple [.lst xs]) s Q E u = Q (.tup xs) s := propext Iff.rfl
@[simp ↓] theorem wp_dIxT {xs : List D} {i : Int} : wp (dIx (.tup xs) (.int i)) s Q E u = atK xs i fun d => Q d s := by
  show wp (fun s => match itemsOf s (.tup xs), D.int i with | some xs, .int i => (match atI xs i with | some v => .ok v s | none => .no) | _, _ => .no) s Q E = _
  unfold wp atK
  simp only [itemsOf]
  cases atI xs i <;> rfl
@[simp ↓] theorem wp_dIxL {xs : List D} {i : Int} : wp (dIx (.lst xs) (.int i)) s Q E u = atK xs i fun d => Q d s := by
  show wp (fun s => match itemsOf s (.lst xs), D.int i with | some xs, .int i => (match atI xs i with | some v => .ok v s | none => .no) | _, _ => .no) s Q E = _
  unfold wp atK
  simp only [itemsOf]
  cases atI xs i <;> rfl
@[simp ↓] theorem wp_cBmL {f : D → List D → Cm D} {o : CE} {a : CA} : wp (cBmL f o a e) s Q E u = wp (o e) s (fun x t => wp (chkL x) t (fun _ u => wp (a e) u (fun xs v => wp (f x xs) v Q E) E) E) E := by
  unfold cBmL
  rw [wp_bnd]
  refine wp_congr fun x t => ?_
  rw [wp_bnd]
  refine wp_congr fun y u => ?_
  rw [wp_bnd]
@[simp ↓] theorem wp_cSl {a : CE} {lo hi : CO} : wp (cSl a lo hi e) s Q E u = wp (a e) s (fun x t => wp (lo e) t (fun l u => wp (hi e) u (fun h v => wp (dSl x l h) v Q E) E) E) E := by
  unfold cSl
  rw [wp_bnd]
  refine wp_congr fun x t => ?_
  rw [wp_bnd]
  refine wp_congr fun y u => ?_
  rw [wp_bnd]
@[simp ↓] theorem wp_oNone {P : Option Int → Sto → Prop} {u : Lk2 P E} : wp (oNone e) s P E u = P none s := propext Iff.rfl
@[simp ↓] theorem wp_oSome {a : CE} {P : Option Int → Sto → Prop} {u : Lk2 P E} : wp (oSome a e) s P E u = wp (a e) s (fun x t => onInt x fun i => P (some i) t) E := by
  unfold oSome
  rw [wp_bnd]
  exact wp_congr fun c t => by cases c <;> rfl
@[simp ↓] theorem wp_dSlT {xs : List D} {lo hi : Option Int} : wp (dSl (.tup xs) lo hi) s Q E u = Q (.tup (cutD xs lo hi)) s := propext Iff.rfl
@[simp ↓] theorem wp_dSlL {xs : List D} {lo hi : Option Int} : wp (dSl (.lst xs) lo hi) s Q E u = wp (alloc (.lst (cutD xs lo hi))) s Q E := propext Iff.rfl
theorem wp_dIsi {T t : String} {x : D} {b : Bool} (h : tyD s x = some t) (k : L2.kitB t T = some b) : wp (dIsi T x) s Q E u = Q (.bl b) s := by
  unfold wp dIsi
  simp only [h, k]
/-- isinstance, by a table of what is asked -/
@[simp ↓] theorem isi_ii {i : Int} : wp (dIsi "int" (.int i)) s Q E u = Q (.bl true) s := wp_dIsi rfl (by decide +kernel)
@[simp ↓] theorem isi_ib {i : Int} : wp (dIsi "bool" (.int i)) s Q E u = Q (.bl false) s := wp_dIsi rfl (by decide +kernel)
@[simp ↓] theorem isi_it {i : Int} : wp (dIsi "tuple" (.int i)) s Q E u = Q (.bl false) s := wp_dIsi rfl (by decide +kernel)
@[simp ↓] theorem isi_il {i : Int} : wp (dIsi "list" (.int i)) s Q E u = Q (.bl false) s := wp_dIsi rfl (by decide +kernel)
@[simp ↓] theorem isi_is {i : Int} : wp (dIsi "str" (.int i)) s Q E u = Q (.bl false) s := wp_dIsi rfl (by decide +kernel)
@[simp ↓] theorem isi_id {i : Int} : wp (dIsi "dict" (.int i)) s Q E u = Q (.bl false) s := wp_dIsi rfl (by decide +kernel)
@[simp ↓] theorem isi_bi {i : Bool} : wp (dIsi "int" (.bl i)) s Q E u = Q (.bl true) s := wp_dIsi rfl (by decide +kernel)
@[simp ↓] theorem isi_bb {i : Bool} : wp (dIsi "bool" (.bl i)) s Q E u = Q (.bl true) s := wp_dIsi rfl (by decide +kernel)
@[simp ↓] theorem isi_bt {i : Bool} : wp (dIsi "tuple" (.bl i)) s Q E u = Q (.bl false) s := wp_dIsi rfl (by decide +kernel)
@[simp ↓] theorem isi_tt {i : List D} : wp (dIsi "tuple" (.tup i)) s Q E u = Q (.bl true) s := wp_dIsi rfl (by decide +kernel)
@[simp ↓] theorem isi_tl {i : List D} : wp (dIsi "list" (.tup i)) s Q E u = Q (.bl false) s := wp_dIsi rfl (by decide +kernel)
@[simp ↓] theorem isi_ti {i : List D} : wp (dIsi "int" (.tup i)) s Q E u = Q (.bl false) s := wp_dIsi rfl (by decide +kernel)
@[simp ↓] theorem isi_ts {i : List D} : wp (dIsi "str" (.tup i)) s Q E u = Q (.bl false) s := wp_dIsi rfl (by decide +kernel)
@[simp ↓] theorem isi_td {i : List D} : wp (dIsi "dict" (.tup i)) s Q E u = Q (.bl false) s := wp_dIsi rfl (by decide +kernel)
@[simp ↓] theorem isi_ss {i : Str} : wp (dIsi "str" (.str i)) s Q E u = Q (.bl true) s := wp_dIsi rfl (by decide +kernel)
@[simp ↓] theorem isi_si {i : Str} : wp (dIsi "int" (.str i)) s Q E u = Q (.bl false) s := wp_dIsi rfl (by decide +kernel)
@[simp ↓] theorem isi_sb {i : Str} : wp (dIsi "bool" (.str i)) s Q E u = Q (.bl false) s := wp_dIsi rfl (by decide +kernel)
@[simp ↓] theorem isi_st {i : Str} : wp (dIsi "tuple" (.str i)) s Q E u = Q (.bl false) s := wp_dIsi rfl (by decide +kernel)
@[simp ↓] theorem isi_sl {i : Str} : wp (dIsi "list" (.str i)) s Q E u = Q (.bl false) s := wp_dIsi rfl (by decide +kernel)
@[simp ↓] theorem isi_sd {i : Str} : wp (dIsi "dict" (.str i)) s Q E u = Q (.bl false) s := wp_dIsi rfl (by decide +kernel)
@[simp ↓] theorem isi_ni : wp (dIsi "int" .non) s Q E u = Q (.bl false) s := wp_dIsi rfl (by decide +kernel)
@[simp ↓] theorem isi_nt : wp (dIsi "tuple" .non) s Q E u = Q (.bl false) s := wp_dIsi rfl (by decide +kernel)
@[simp ↓] theorem isi_nl : wp (dIsi "list" .non) s Q E u = Q (.bl false) s := wp_dIsi rfl (by decide +kernel)
@[simp ↓] theorem isi_nd : wp (dIsi "dict" .non) s Q E u = Q (.bl false) s := wp_dIsi rfl (by decide +kernel)
@[simp ↓] theorem isi_ns : wp (dIsi "str" .non) s Q E u = Q (.bl false) s := wp_dIsi rfl (by decide +kernel)
/-- in, of written things -/
@[simp ↓] theorem wp_dInT {neg : Bool} {x : D} {ys : List D} : wp (dIn neg x (.tup ys)) s Q E u = gd (flatD x = true ∧ ys.all flatD = true) (Q (.bl (if neg then !inD x ys else inD x ys)) s) := by
  unfold wp dIn gd
  simp only [itemsOf]
  by_cases c : flatD x = true ∧ ys.all flatD = true
  · rw [if_pos c]; exact (propext ⟨fun z => ⟨c, z⟩, fun z => z.2⟩)
  · rw [if_neg c]; exact (propext ⟨fun z => z.elim, fun z => c z.1⟩)
@[simp] theorem flat_non : flatD .non = true := rfl
@[simp] theorem flat_bl {b : Bool} : flatD (.bl b) = true := rfl
@[simp] theorem flat_int {b : Int} : flatD (.int b) = true := rfl
@[simp] theorem flat_str {b : Str} : flatD (.str b) = true := rfl
@[simp] theorem isNon_non : isNon .non = true := rfl
@[simp] theorem isNon_bl {b : Bool} : isNon (.bl b) = false := rfl
@[simp] theorem isNon_int {b : Int} : isNon (.int b) = false := rfl
@[simp] theorem isNon_str {b : Str} : isNon (.str b) = false := rfl
@[simp] theorem isNon_tup {b : List D} : isNon (.tup b) = false := rfl
@[simp] theorem isNon_lst {b : List D} : isNon (.lst b) = false := rfl
@[simp] theorem isNon_box {b : Nat} : isNon (.box b) = false := rfl
@[simp] theorem wipe0 {e : En} : wipeE e [] = e := rfl
@[simp] theorem wipes {e : En} {v : Nat} {vs : List Nat} : wipeE e (v :: vs) = st (wipeE e vs) v none := rfl
@[simp] theorem st0 {x d : Option D} {r : En} : st (x :: r) 0 d = d :: r := rfl
@[simp] theorem sts {x d : Option D} {r : En} {n : Nat} : st (x :: r) (n + 1) d = x :: st r n d := rfl
@[simp] theorem big_n : big = 1000000 := rfl
/-! ### lists that nobody holds on to -/
@[simp ↓] theorem wp_cNew {a : CA} : wp (cNew a e) s Q E u = wp (a e) s (fun xs t => wp (alloc (.lst xs)) t Q E) E := by
  unfold cNew
  rw [wp_bnd]
@[simp ↓] theorem wp_cChk {a : CA} {P : List D → Sto → Prop} {u : Lk2 P E} : wp (cChk a e) s P E u = wp (a e) s (fun xs t => gd (xs.length ≤ big) (P xs t)) E := by
  unfold cChk
  rw [wp_bnd]
  exact wp_congr fun x t => wp_guard
@[simp ↓] theorem wp_cPick {a : CA} {b : CE} : wp (cPick a b e) s Q E u = wp (a e) s (fun xs t => wp (b e) t (fun y u => onInt y fun i => atK xs i fun v => Q v u) E) E := by
  unfold cPick
  rw [wp_bnd]
  refine wp_congr fun xs t => ?_
  rw [wp_bnd]
  refine wp_congr fun y u => ?_
  cases y <;> first | rfl | skip
  rename_i i
  rw [onInt_int]
  unfold atK pickD
  cases h : atI xs i <;> simp only [h] <;> rfl
@[simp ↓] theorem wp_cInA {neg : Bool} {b : CE} {a : CA} : wp (cInA neg b a e) s Q E u = wp (b e) s (fun x t => wp (a e) t (fun ys u => gd (flatD x = true ∧ ys.all flatD = true) (Q (.bl (if neg then !inD x ys else inD x ys)) u)) E) E := by
  unfold cInA
  rw [wp_bnd]
  refine wp_congr fun x t => ?_
  rw [wp_bnd]
  exact wp_congr fun y u => wp_guard
@[simp ↓] theorem wp_cTp {a : CA} : wp (cTp a e) s Q E u = wp (a e) s (fun xs t => Q (.tup xs) t) E := by
  unfold cTp
  rw [wp_bnd]
  rfl
@[simp ↓] theorem wp_cLn {a : CA} : wp (cLn a e) s Q E u = wp (a e) s (fun xs t => Q (.int xs.length) t) E := by
  unfold cLn
  rw [wp_bnd]
  rfl
@[simp ↓] theorem wp_cAllA {a : CA} : wp (cAllA a e) s Q E u = wp (a e) s (fun xs t => gd (xs.all isBl = true) (Q (.bl (xs.all blOf)) t)) E := by
  unfold cAllA
  rw [wp_bnd]
  exact wp_congr fun x t => wp_guard
@[simp ↓] theorem wp_cSumA {a : CA} : wp (cSumA a e) s Q E u = wp (a e) s (fun xs t => wp (sumA xs) t Q E) E := by
  unfold cSumA
  rw [wp_bnd]
@[simp ↓] theorem wp_cMaxA {a : CA} : wp (cMaxA a e) s Q E u = wp (a e) s (fun xs t => wp (maxA xs) t Q E) E := by
  unfold cMaxA
  rw [wp_bnd]
theorem wp_sumA {xs : List D} {ns : List Int} (h : intsD xs = some ns) (k : Q (.int ns.sum) s) : wp (sumA xs) s Q E u := by
  unfold sumA; rw [h]; exact k
theorem wp_maxA {xs : List D} {ns : List Int} (h : intsD xs = some ns) (h0 : 0 < ns.length) (k : Q (.int (maxD ns)) s) : wp (maxA xs) s Q E u := by
  unfold maxA; rw [h]; show wp (if 0 < ns.length then ret (.int (maxD ns)) else noC) s Q E; rw [if_pos h0]; exact k
theorem intsD_map {ns : List Int} : intsD (ns.map D.int) = some ns := by
  induction ns with
  | nil => rfl
  | cons n ns ih => simp only [List.map_cons, intsD, ih]; rfl
/-! ### a def -/
theorem wp_dfn {n m : Nat} {c : CS} {ds : List D} (h : ds.length = n) (k : ws c (ds.map some ++ List.replicate (m - n) none) s (fun _ t => Q .non t) Q NE NE E) : wp (dfn n m c ds) s Q E u := by
  unfold dfn
  rw [if_pos h]
  unfold ws at k
  generalize ds.map some ++ List.replicate (m - n) none = env at k ⊢
  unfold wp bnd at *
  cases e : c env s with
  | ok fl t =>
    rw [e] at k
    cases fl <;> exact k
  | ex _ _ _ => rw [e] at k; exact k.elim
  | no => rw [e] at k; exact k
/-- from a wp to a run -/
theorem run_of_wp {g : Cm D} {s : Sto} {d : D} (h : wp g s (fun x _ => x = d) NX) : ∃ t, g s = .ok d t := by
  unfold wp at h
  cases e : g s with
  | ok a t => rw [e] at h; exact ⟨t, by rw [← (show a = d from h)]⟩
  | ex _ _ _ => rw [e] at h; exact h.elim
  | no => rw [e] at h; exact h.elim
end
/-! ### the store: what stands at a box, what stays, what is new -/
def At (s : Sto) (j : Nat) (m : MO) : Prop := s[j]? = some m
def Fr (js : List Nat) (s t : Sto) : Prop := s.length ≤ t.length ∧ ∀ i, i < s.length → i ∉ js → t[i]? = s[i]?
def Nw (s : Sto) (j : Nat) : Prop := s.length ≤ j
theorem At.lt {s : Sto} {j : Nat} {m : MO} (h : At s j m) : j < s.length := (List.getElem?_eq_some_iff.mp h).1
theorem At.fr {js : List Nat} {s t : Sto} {i : Nat} {m : MO} (f : Fr js s t) (h : At s i m) (n : i ∉ js) : At t i m := (f.2 i h.lt n).trans h
theorem At.fr0 {s t : Sto} {i : Nat} {m : MO} (f : Fr [] s t) (h : At s i m) : At t i m := h.fr f (by simp)
theorem At.fr1 {s t : Sto} {i j : Nat} {m : MO} (f : Fr [j] s t) (h : At s i m) (n : i ≠ j) : At t i m := h.fr f (by simpa using n)
theorem At.fr2 {s t : Sto} {i j k : Nat} {m : MO} (f : Fr [j, k] s t) (h : At s i m) (n : i ≠ j) (n' : i ≠ k) : At t i m := h.fr f (by simp; exact ⟨n, n'⟩)
theorem At.same {s : Sto} {j : Nat} {m m' : MO} (h : At s j m) (h' : At s j m') : m = m' := Option.some.inj (h.symm.trans h')
theorem Nw.ne {s : Sto} {i j : Nat} (n : Nw s j) (h : i < s.length) : i ≠ j := fun e => by unfold Nw at n; omega
theorem Nw.ne' {s : Sto} {i j : Nat} (n : Nw s j) (h : i < s.length) : j ≠ i := fun e => by unfold Nw at n; omega
theorem Fr.lt {js : List Nat} {s t : Sto} {i : Nat} (f : Fr js s t) (h : i < s.length) : i < t.length := Nat.lt_of_lt_of_le h f.1
theorem Fr.refl {js : List Nat} {s : Sto} : Fr js s s := ⟨Nat.le_refl _, fun _ _ _ => rfl⟩
theorem Fr.trans {js : List Nat} {s t u : Sto} (a : Fr js s t) (b : Fr js t u) : Fr js s u := ⟨Nat.le_trans a.1 b.1, fun i h n => (b.2 i (Nat.lt_of_lt_of_le h a.1) n).trans (a.2 i h n)⟩
theorem Fr.up {js : List Nat} {s t : Sto} (a : Fr [] s t) : Fr js s t := ⟨a.1, fun i h _ => a.2 i h (by simp)⟩
theorem Fr.sub {js ks : List Nat} {s t : Sto} (a : Fr js s t) (h : ∀ i ∈ js, i ∈ ks) : Fr ks s t := ⟨a.1, fun i hi n => a.2 i hi fun q => n (h i q)⟩
theorem Fr.nw {js : List Nat} {s t : Sto} {j : Nat} (a : Fr js s t) (n : Nw t j) : Nw s j := Nat.le_trans a.1 n
/-- changes of new things don't count -/
theorem Fr.new {js : List Nat} {s t u : Sto} {j : Nat} (a : Fr js s t) (n : Nw s j) (b : Fr [j] t u) : Fr js s u := ⟨Nat.le_trans a.1 b.1, fun i h k => (b.2 i (Nat.lt_of_lt_of_le h a.1) (by simp; exact n.ne h)).trans (a.2 i h k)⟩
theorem Fr.new2 {js : List Nat} {s t u : Sto} {j k : Nat} (a : Fr js s t) (n : Nw s j) (b : Fr [j, k] t u) (hk : k ∈ js) : Fr js s u := ⟨Nat.le_trans a.1 b.1, fun i h q => (b.2 i (Nat.lt_of_lt_of_le h a.1) (by simp; exact ⟨n.ne h, fun e => q (e ▸ hk)⟩)).trans (a.2 i h q)⟩
theorem lAt_at {s : Sto} {j : Nat} {xs : List D} (h : At s j (.lst xs)) : lAt s j = some xs := by
  unfold lAt
  rw [h]
theorem at_set {s : Sto} {j : Nat} {m m' : MO} (h : At s j m) : At (s.set j m') j m' := List.getElem?_set_self h.lt
theorem fr_set {s : Sto} {j : Nat} {m : MO} : Fr [j] s (s.set j m) := ⟨by simp, fun i h n => List.getElem?_set_ne (fun e => n (by rw [e]; exact List.mem_singleton_self _))⟩
theorem fr_push {s : Sto} {m : MO} : Fr [] s (s ++ [m]) := ⟨by simp, fun i h _ => List.getElem?_append_left h⟩
theorem at_push {s : Sto} {m : MO} : At (s ++ [m]) s.length m := by unfold At; simp
section
variable {s : Sto} {Q : D → Sto → Prop} {E : XP} {u : Lk2 Q E}
theorem r_new {m : MO} (q : ∀ t j, At t j m → Nw s j → Fr [] s t → Q (.box j) t) : wp (alloc m) s Q E u := q _ _ at_push (Nat.le_refl _) fr_push
theorem r_ix {j : Nat} {xs : List D} {i : Int} (h : At s j (.lst xs)) (k : atK xs i fun v => Q v s) : wp (dIx (.box j) (.int i)) s Q E u := by
  unfold wp dIx
  simp only [rowOf, itemsOf, lAt_at h]
  unfold atK at k
  cases e : atI xs i with
  | none => rw [e] at k; exact k
  | some v => rw [e] at k; exact k
theorem r_len {j : Nat} {xs : List D} (h : At s j (.lst xs)) (k : Q (.int xs.length) s) : wp (bLen [.box j]) s Q E u := by
  unfold wp bLen
  simp only [itemsOf, lAt_at h]
  exact k
theorem r_chk {j : Nat} {xs : List D} {P : Unit → Sto → Prop} {u : Lk2 P E} (h : At s j (.lst xs)) (k : P () s) : wp (chkL (.box j)) s P E u := by
  unfold wp chkL
  simp only [lAt_at h]
  exact k
theorem r_app {j : Nat} {xs : List D} {v : D} (h : At s j (.lst xs)) (hl : xs.length < big) (k : ∀ t, At t j (.lst (xs ++ [v])) → Fr [j] s t → Q .non t) : wp (dApp (.box j) [v]) s Q E u := by
  unfold wp dApp
  simp only [lAt_at h]
  rw [if_pos hl]
  exact k _ (at_set h) fr_set
theorem r_ext {j i : Nat} {xs ys : List D} (h : At s j (.lst xs)) (h' : At s i (.lst ys)) (hl : xs.length + ys.length ≤ big) (k : ∀ t, At t j (.lst (xs ++ ys)) → Fr [j] s t → Q .non t) : wp (dExt (.box j) [.box i]) s Q E u := by
  unfold wp dExt
  simp only [lAt_at h, lAt_at h']
  rw [if_pos hl]
  exact k _ (at_set h) fr_set
theorem r_clear {j : Nat} {xs : List D} (h : At s j (.lst xs)) (k : ∀ t, At t j (.lst []) → Fr [j] s t → Q .non t) : wp (dClear (.box j) []) s Q E u := by
  unfold wp dClear
  simp only [lAt_at h]
  exact k _ (at_set h) fr_set
theorem r_put {j : Nat} {xs : List D} {i : Int} {m : Nat} {v : D} {P : Unit → Sto → Prop} {u : Lk2 P E} (h : At s j (.lst xs)) (hm : ixN xs.length i = some m) (k : ∀ t, At t j (.lst (xs.set m v)) → Fr [j] s t → P () t) : wp (dPutL (.box j) (.int i) v) s P E u := by
  unfold wp dPutL
  simp only [lAt_at h, hm]
  exact k _ (at_set h) fr_set
theorem ixN_nat {n : Nat} {i : Int} (h0 : 0 ≤ i) (h1 : i < n) : ixN n i = some i.toNat := by
  unfold ixN
  rw [if_pos (by omega), if_pos (by omega)]
theorem r_putT {j : Nat} {xs : List D} {i : Int} {v : D} {P : Unit → Sto → Prop} {u : Lk2 P E} (h : At s j (.lst xs)) (h0 : 0 ≤ i) (h1 : i < xs.length) (k : ∀ t, At t j (.lst (xs.set i.toNat v)) → Fr [j] s t → P () t) : wp (dPutL (.box j) (.int i) v) s P E u := r_put h (ixN_nat h0 h1) k
theorem r_slL {j : Nat} {xs : List D} {lo hi : Option Int} (h : At s j (.lst xs)) (k : wp (alloc (.lst (cutD xs lo hi))) s Q E) : wp (dSl (.box j) lo hi) s Q E u := by
  unfold wp dSl
  simp only [lAt_at h]
  exact k
theorem r_listB {j : Nat} {xs : List D} (h : At s j (.lst xs)) (k : wp (alloc (.lst xs)) s Q E) : wp (bList [.box j]) s Q E u := by
  unfold wp bList
  simp only [itemsOf, lAt_at h]
  exact k
theorem r_tupleB {j : Nat} {xs : List D} (h : At s j (.lst xs)) (k : Q (.tup xs) s) : wp (bTuple [.box j]) s Q E u := by
  unfold wp bTuple
  simp only [itemsOf, lAt_at h]
  exact k
theorem r_addL {i j : Nat} {xs ys : List D} (h : At s i (.lst xs)) (h' : At s j (.lst ys)) (hl : xs.length + ys.length ≤ big) (k : wp (alloc (.lst (xs ++ ys))) s Q E) : wp (dAdd (.box i) (.box j)) s Q E u := by
  show wp (fun s => match lAt s i, lAt s j with | some xs, some ys => if xs.length + ys.length ≤ big then alloc (.lst (xs ++ ys)) s else .no | _, _ => .no) s Q E
  unfold wp at *
  simp only [lAt_at h, lAt_at h', if_pos hl]
  exact k
theorem r_mulL {i : Nat} {xs : List D} {n : Int} (h : At s i (.lst xs)) (hl : -(2 ^ 62) < n ∧ n < 2 ^ 62 ∧ xs.length * n.toNat ≤ big) (k : wp (alloc (.lst (List.replicate n.toNat xs).flatten)) s Q E) : wp (dMul (.box i) (.int n)) s Q E u := by
  show wp (fun s => match lAt s i with | some xs => if -(2 ^ 62) < n ∧ n < 2 ^ 62 ∧ xs.length * n.toNat ≤ big then alloc (.lst (List.replicate n.toNat xs).flatten) s else .no | _ => .no) s Q E
  unfold wp at *
  simp only [lAt_at h, if_pos hl]
  exact k
theorem r_inL {neg : Bool} {x : D} {j : Nat} {ys : List D} (h : At s j (.lst ys)) (c : flatD x = true ∧ ys.all flatD = true) (k : Q (.bl (if neg then !inD x ys else inD x ys)) s) : wp (dIn neg x (.box j)) s Q E u := by
  unfold wp dIn
  simp only [itemsOf, lAt_at h]
  rw [if_pos c]
  exact k
theorem ty_lst {j : Nat} {ys : List D} (h : At s j (.lst ys)) : tyD s (.box j) = some "list" := by
  have e : s[j]? = some (.lst ys) := h
  simp only [tyD, e]
theorem r_isiLL {j : Nat} {ys : List D} (h : At s j (.lst ys)) (k : Q (.bl true) s) : wp (dIsi "list" (.box j)) s Q E u := by
  rw [wp_dIsi (t := "list") (b := true) (ty_lst h) (by decide +kernel)]
  exact k
theorem r_isiLT {j : Nat} {ys : List D} (h : At s j (.lst ys)) (k : Q (.bl false) s) : wp (dIsi "tuple" (.box j)) s Q E u := by
  rw [wp_dIsi (t := "list") (b := false) (ty_lst h) (by decide +kernel)]
  exact k
theorem r_isiLI {j : Nat} {ys : List D} (h : At s j (.lst ys)) (k : Q (.bl false) s) : wp (dIsi "int" (.box j)) s Q E u := by
  rw [wp_dIsi (t := "list") (b := false) (ty_lst h) (by decide +kernel)]
  exact k
theorem r_isiLD {j : Nat} {ys : List D} (h : At s j (.lst ys)) (k : Q (.bl false) s) : wp (dIsi "dict" (.box j)) s Q E u := by
  rw [wp_dIsi (t := "list") (b := false) (ty_lst h) (by decide +kernel)]
  exact k
/-- == of the same data -/
theorem r_eq {x y : D} {b : Bool} (h : eqX s x y = some b) (k : Q (.bl b) s) : wp (dEq x y) s Q E u := by
  unfold wp dEq; simp only [h]; exact k
theorem r_ne {x y : D} {b : Bool} (h : eqX s x y = some b) (k : Q (.bl (!b)) s) : wp (dNe x y) s Q E u := by
  unfold wp dNe; simp only [h]; exact k
end
/-! ### slots that a loop keeps -/
/-- the slots by a pattern: what is told, the others anything -/
def fill : List (Option D) → (Nat → Option D) → Nat → En
  | [], _, _ => []
  | some d :: r, f, n => some d :: fill r f (n + 1)
  | none :: r, f, n => f n :: fill r f (n + 1)
@[simp] theorem fill_nil {f : Nat → Option D} {n : Nat} : fill [] f n = [] := rfl
@[simp] theorem fill_some {d : D} {r : List (Option D)} {f : Nat → Option D} {n : Nat} : fill (some d :: r) f n = some d :: fill r f (n + 1) := rfl
@[simp] theorem fill_none {r : List (Option D)} {f : Nat → Option D} {n : Nat} : fill (none :: r) f n = f n :: fill r f (n + 1) := rfl
def Sl : En → List (Option D) → Prop
  | [], [] => True
  | a :: e, some d :: r => a = some d ∧ Sl e r
  | _ :: e, none :: r => Sl e r
  | _, _ => False
theorem Sl_fill : ∀ {e : En} {p : List (Option D)} (n : Nat), Sl e p → ∃ f : Nat → Option D, e = fill p f n
  | [], [], n, _ => ⟨fun _ => none, rfl⟩
  | a :: e, some d :: r, n, h => by
    obtain ⟨rfl, h⟩ := h
    obtain ⟨f, rfl⟩ := Sl_fill (n + 1) h
    exact ⟨f, rfl⟩
  | a :: e, none :: r, n, h => by
    obtain ⟨f, rfl⟩ := Sl_fill (n + 1) (show Sl e r from h)
    refine ⟨fun i => if i = n then a else f i, ?_⟩
    have go : ∀ (r : List (Option D)) (m : Nat), n < m → fill r f m = fill r (fun i => if i = n then a else f i) m := by
      intro r
      induction r with
      | nil => intro m _; rfl
      | cons x r ih =>
        intro m hm
        cases x with
        | some d => rw [fill_some, fill_some, ih _ (by omega)]
        | none => rw [fill_none, fill_none, ih _ (by omega), if_neg (by omega)]
    rw [fill_none, if_pos rfl, go r (n + 1) (by omega)]
  | [], _ :: _, _, h => h.elim
  | _ :: _, [], _, h => h.elim
/-! ### loops -/
section
variable {s : Sto} {N B C : En → Sto → Prop} {Rt : D → Sto → Prop} {E : XP} {v : Lk5 N Rt B C E}
/-- a for, by an invariant over (turn, slots, store) -/
theorem forL_inv {src : Src} {all : List D} {tg : Tg} {b : CS} (I : Nat → En → Sto → Prop) (hi : ∀ i e t, I i e t → src.items t = some all)
    (turn : ∀ i x e t, all[i]? = some x → I i e t → withT tg x e fun e' => ws b e' t (I (i + 1)) Rt N (I (i + 1)) E) (done : ∀ e t, I all.length e t → N e t) :
    ∀ (r : List D) (i : Nat) e t, all.drop i = r → i ≤ all.length → I i e t → wp (forL src all tg b r e) t (fun fl t => match fl with
      | .nx e' => N e' t
      | .rt d => Rt d t
      | .bk e' => B e' t
      | .ct e' => C e' t
      | .ex c fs _ => E c fs t) NX := by
  intro r
  induction r with
  | nil =>
    intro i e t hr hl h
    have : i = all.length := by
      have := congrArg List.length hr
      simp at this
      omega
    subst this
    unfold wp forL
    rw [if_pos (hi _ e t h)]
    exact done e t h
  | cons x r ih =>
    intro i e t hr hl h
    have hlt : i < all.length := by
      have := congrArg List.length hr
      simp at this
      omega
    have hx : all[i]? = some x := by
      rw [List.drop_eq_getElem_cons hlt] at hr
      rw [List.getElem?_eq_getElem hlt]
      exact congrArg some (List.cons.inj hr).1
    have hr' : all.drop (i + 1) = r := by
      rw [List.drop_eq_getElem_cons hlt] at hr
      exact (List.cons.inj hr).2
    have k := turn i x e t hx h
    unfold withT at k
    cases eb : bindT tg x e with
    | none => rw [eb] at k; exact k.elim
    | some e' =>
    rw [eb] at k
    have e1 : ∀ P E, wp (forL src all tg b (x :: r) e) t P E = wp (bnd (b e') (fun fl => match fl with
        | .nx e2 => forL src all tg b r e2
        | .ct e2 => forL src all tg b r e2
        | .bk e2 => ret (.nx e2)
        | .rt d => ret (.rt d)
        | .ex c fs e2 => ret (.ex c fs e2))) t P E := by
      intro P E
      unfold wp
      conv => lhs; unfold forL
      rw [if_pos (hi i e t h)]
      simp only [eb]
      all_goals rfl
    rw [e1, wp_bnd]
    unfold ws at k
    refine wp_mono k (fun fl u q => ?_) fun _ _ _ z => z
    cases fl with
    | nx e2 => exact ih (i + 1) e2 u hr' hlt q
    | ct e2 => exact ih (i + 1) e2 u hr' hlt q
    | bk e2 => exact q
    | rt d => exact q
    | ex c fs e2 => exact q
/-- a for whose source is known: what is left to be shown -/
def wfor (w : Src) (tg : Tg) (b : CS) (e : En) (s : Sto) (N : En → Sto → Prop) (Rt : D → Sto → Prop) (B C : En → Sto → Prop) (E : XP) (_ : Lk5 N Rt B C E := .u) : Prop := ∃ (all : List D) (I : Nat → En → Sto → Prop), w.items s = some all ∧ I 0 e s ∧ (∀ i e t, I i e t → w.items t = some all) ∧
    (∀ i x e t, all[i]? = some x → I i e t → withT tg x e fun e' => ws b e' t (I (i + 1)) Rt N (I (i + 1)) E) ∧ ∀ e t, I all.length e t → N e t
theorem ws_for {c : CS'} {tg : Tg} {b : CS} {e : En} (h : wp (c e) s (fun w t => wfor w tg b e t N Rt B C E) E) : ws (sFor c tg b) e s N Rt B C E v := by
  unfold ws sFor
  rw [wp_lft]
  refine wp_mono h (fun w t ⟨all, I, h1, h2, h3, h4, h5⟩ => ?_) fun _ _ _ z => z
  have q := forL_inv (B := B) (C := C) I h3 h4 h5 all 0 e t rfl (Nat.zero_le _) h2
  unfold wp at q ⊢
  simp only [h1]
  exact q
/-- over any known row -/
theorem wfor_i {w : Src} {tg : Tg} {b : CS} {e : En} {s : Sto} {v : Lk5 N Rt B C E} (all : List D) {σ : Type} (L : Nat → σ → List (Option D)) (I : Nat → σ → Sto → Prop) (a0 : σ) (hw : w.items s = some all) (h0 : Sl e (L 0 a0)) (h1 : I 0 a0 s) (hs : ∀ i a t, I i a t → w.items t = some all)
    (turn : ∀ i x a f t, all[i]? = some x → I i a t → withT tg x (fill (L i a) f 0) fun e' => ws b e' t (fun e2 u => dn (∃ a', Sl e2 (L (i + 1) a') ∧ I (i + 1) a' u)) Rt N (fun e2 u => dn (∃ a', Sl e2 (L (i + 1) a') ∧ I (i + 1) a' u)) E)
    (done : ∀ a f t, I all.length a t → onE (fill (L all.length a) f 0) fun e0 => N e0 t) : wfor w tg b e s N Rt B C E v := by
  refine ⟨all, fun i e t => ∃ a, Sl e (L i a) ∧ I i a t, hw, ⟨a0, h0, h1⟩, fun i e t ⟨a, _, h⟩ => hs i a t h, fun i x e t hx ⟨a, h, k⟩ => ?_, fun e t ⟨a, h, k⟩ => ?_⟩
  · obtain ⟨f, rfl⟩ := Sl_fill 0 h
    exact turn i x a f t hx k
  · obtain ⟨f, rfl⟩ := Sl_fill 0 h
    exact done a f t k
theorem rngD_len {lo : Int} {n : Nat} : (rngD lo n).length = n := by simp [rngD]
theorem rngD_get {lo : Int} {n i : Nat} {x : D} (h : (rngD lo n)[i]? = some x) : i < n ∧ x = .int (lo + i) := by
  unfold rngD at h
  rw [List.getElem?_map] at h
  by_cases q : i < n
  · rw [List.getElem?_range q] at h
    cases h
    exact ⟨q, rfl⟩
  · rw [List.getElem?_eq_none (by simpa using q)] at h
    cases h
/-- over a range -/
theorem wfor_r {lo : Int} {n : Nat} {tg : Tg} {b : CS} {e : En} {s : Sto} {v : Lk5 N Rt B C E} {σ : Type} (L : Nat → σ → List (Option D)) (I : Nat → σ → Sto → Prop) (a0 : σ) (h0 : Sl e (L 0 a0)) (h1 : I 0 a0 s)
    (turn : ∀ i a f t, i < n → I i a t → withT tg (.int (lo + i)) (fill (L i a) f 0) fun e' => ws b e' t (fun e2 u => dn (∃ a', Sl e2 (L (i + 1) a') ∧ I (i + 1) a' u)) Rt N (fun e2 u => dn (∃ a', Sl e2 (L (i + 1) a') ∧ I (i + 1) a' u)) E)
    (done : ∀ a f t, I n a t → onE (fill (L n a) f 0) fun e0 => N e0 t) : wfor (.rng lo n) tg b e s N Rt B C E v := by
  refine wfor_i (rngD lo n) L I a0 rfl h0 h1 (fun _ _ _ _ => rfl) (fun i x a f t hx h => ?_) (fun a f t h => ?_)
  · obtain ⟨hi, rfl⟩ := rngD_get hx
    exact turn i a f t hi h
  · rw [rngD_len] at h ⊢
    exact done a f t h
/-- over a tuple -/
theorem wfor_t {all : List D} {tg : Tg} {b : CS} {e : En} {s : Sto} {v : Lk5 N Rt B C E} {σ : Type} (L : Nat → σ → List (Option D)) (I : Nat → σ → Sto → Prop) (a0 : σ) (h0 : Sl e (L 0 a0)) (h1 : I 0 a0 s)
    (turn : ∀ i x a f t, all[i]? = some x → I i a t → withT tg x (fill (L i a) f 0) fun e' => ws b e' t (fun e2 u => dn (∃ a', Sl e2 (L (i + 1) a') ∧ I (i + 1) a' u)) Rt N (fun e2 u => dn (∃ a', Sl e2 (L (i + 1) a') ∧ I (i + 1) a' u)) E)
    (done : ∀ a f t, I all.length a t → onE (fill (L all.length a) f 0) fun e0 => N e0 t) : wfor (.seq (.tup all)) tg b e s N Rt B C E v :=
  wfor_i all L I a0 rfl h0 h1 (fun _ _ _ _ => rfl) turn done
/-- over a list that stands still -/
theorem wfor_b {j : Nat} {all : List D} {tg : Tg} {b : CS} {e : En} {s : Sto} {v : Lk5 N Rt B C E} {σ : Type} (hj : At s j (.lst all)) (L : Nat → σ → List (Option D)) (I : Nat → σ → Sto → Prop) (a0 : σ) (h0 : Sl e (L 0 a0)) (h1 : I 0 a0 s) (hs : ∀ i a t, I i a t → At t j (.lst all))
    (turn : ∀ i x a f t, all[i]? = some x → I i a t → withT tg x (fill (L i a) f 0) fun e' => ws b e' t (fun e2 u => dn (∃ a', Sl e2 (L (i + 1) a') ∧ I (i + 1) a' u)) Rt N (fun e2 u => dn (∃ a', Sl e2 (L (i + 1) a') ∧ I (i + 1) a' u)) E)
    (done : ∀ a f t, I all.length a t → onE (fill (L all.length a) f 0) fun e0 => N e0 t) : wfor (.seq (.box j)) tg b e s N Rt B C E v :=
  wfor_i all L I a0 (lAt_at hj) h0 h1 (fun i a t h => lAt_at (hs i a t h)) turn done
@[simp ↓] theorem wp_iRng {a : CE} {e : En} {P : Src → Sto → Prop} {u : Lk2 P E} : wp (iRng a e) s P E u = wp (a e) s (fun d t => onInt d fun j => gd (-(2 ^ 62) ≤ j ∧ j < 2 ^ 62) (P (.rng 0 j.toNat) t)) E := by
  unfold iRng
  rw [wp_bnd]
  exact wp_congr fun d t => by cases d <;> first | rfl | exact wp_guard
@[simp ↓] theorem wp_iRng2 {a b : CE} {e : En} {P : Src → Sto → Prop} {u : Lk2 P E} : wp (iRng2 a b e) s P E u = wp (a e) s (fun c t => wp (b e) t (fun d u => onInt c fun i => onInt d fun j => gd (-(2 ^ 62) ≤ i ∧ i < 2 ^ 62 ∧ -(2 ^ 62) ≤ j ∧ j < 2 ^ 62) (P (.rng i (j - i).toNat) u)) E) E := by
  unfold iRng2
  rw [wp_bnd]
  refine wp_congr fun c t => ?_
  rw [wp_bnd]
  refine wp_congr fun d u => ?_
  cases c <;> first | rfl | skip
  cases d <;> first | rfl | exact wp_guard
@[simp ↓] theorem wp_iSeq {a : CE} {e : En} {P : Src → Sto → Prop} {u : Lk2 P E} : wp (iSeq a e) s P E u = wp (a e) s (fun d t => gd (∃ xs, rowOf t d = some xs) (P (.seq d) t)) E := by
  unfold iSeq
  rw [wp_bnd]
  refine wp_congr fun d t => ?_
  unfold wp gd
  dsimp only
  cases q : rowOf t d with
  | none => exact propext ⟨fun z => False.elim z, fun ⟨⟨_, z⟩, _⟩ => nomatch z⟩
  | some xs => exact propext ⟨fun z => ⟨⟨xs, rfl⟩, z⟩, fun z => z.2⟩
/-- a while, by an invariant with a measure -/
theorem ws_while0 {t : CT} {b : CS} {e : En} (I : Nat → En → Sto → Prop) (m : Nat) (h0 : I m e s) (hm : m < turnsMost)
    (turn : ∀ m e s, I m e s → wp (t e) s (fun c u => sel c (ws b e u (fun e' v => ∃ m', m' < m ∧ I m' e' v) Rt N (fun e' v => ∃ m', m' < m ∧ I m' e' v) E) (N e u)) E) : ws (sWhile t b) e s N Rt B C E v := by
  unfold ws sWhile
  have go : ∀ (n m : Nat) e s, m < n → I m e s → wp (whileN t b n e) s (fun fl t => match fl with
      | .nx e' => N e' t
      | .rt d => Rt d t
      | .bk e' => B e' t
      | .ct e' => C e' t
      | .ex c fs _ => E c fs t) NX := by
    intro n
    induction n with
    | zero => intro m e s h; omega
    | succ n ih =>
      intro m e s h hI
      unfold whileN
      rw [wp_lft]
      refine wp_mono (turn m e s hI) (fun c u q => ?_) fun _ _ _ z => z
      cases c with
      | false => rw [sel_false] at q; exact q
      | true =>
        rw [sel_true] at q
        simp only [if_true]
        rw [wp_bnd]
        unfold ws at q
        refine wp_mono q (fun fl v q => ?_) fun _ _ _ z => z
        cases fl with
        | nx e2 =>
          obtain ⟨m', h1, h2⟩ := q
          exact ih m' e2 v (by omega) h2
        | ct e2 =>
          obtain ⟨m', h1, h2⟩ := q
          exact ih m' e2 v (by omega) h2
        | bk e2 => exact q
        | rt d => exact q
        | ex c fs e2 => exact q
  exact go turnsMost m e s hm h0
theorem ws_while {t : CT} {b : CS} {e : En} {σ : Type} (L : σ → List (Option D)) (I : σ → Sto → Prop) (μ : σ → Nat) (a0 : σ) (hm : μ a0 < 100000) (h0 : Sl e (L a0)) (h1 : I a0 s)
    (turn : ∀ a f s, I a s → onE (fill (L a) f 0) fun e0 => wp (t e0) s (fun c u => sel c (ws b e0 u (fun e' v => dn (∃ a', μ a' < μ a ∧ Sl e' (L a') ∧ I a' v)) Rt N (fun e' v => dn (∃ a', μ a' < μ a ∧ Sl e' (L a') ∧ I a' v)) E) (N e0 u)) E) : ws (sWhile t b) e s N Rt B C E v := by
  refine ws_while0 (fun m e s => ∃ a, μ a = m ∧ Sl e (L a) ∧ I a s) (μ a0) ⟨a0, rfl, h0, h1⟩ hm ?_
  rintro m e s ⟨a, rfl, h, k⟩
  obtain ⟨f, rfl⟩ := Sl_fill 0 h
  refine wp_mono (turn a f s k) (fun c u q => ?_) fun _ _ _ z => z
  cases c with
  | false => rw [sel_false] at q ⊢; exact q
  | true =>
    rw [sel_true] at q ⊢
    unfold ws at q ⊢
    refine wp_mono q (fun fl v q => ?_) fun _ _ _ z => z
    cases fl with
    | nx e2 => obtain ⟨a', q1, q2⟩ := q; exact ⟨_, q1, a', rfl, q2⟩
    | ct e2 => obtain ⟨a', q1, q2⟩ := q; exact ⟨_, q1, a', rfl, q2⟩
    | bk e2 => exact q
    | rt d => exact q
    | ex c fs e2 => exact q
@[simp] theorem eqD_ii {i j : Int} : eqD (.int i) (.int j) = decide (i = j) := by
  show (i == j) = _
  by_cases h : i = j <;> simp [h]
@[simp] theorem eqD_ss {i j : Str} : eqD (.str i) (.str j) = decide (i = j) := by
  show (i == j) = _
  by_cases h : i = j <;> simp [h]
@[simp] theorem eqD_si {i : Str} {j : Int} : eqD (.str i) (.int j) = false := rfl
@[simp] theorem eqD_is {i : Int} {j : Str} : eqD (.int i) (.str j) = false := rfl
@[simp] theorem eqD_ni {j : Int} : eqD .non (.int j) = false := rfl
@[simp] theorem eqD_in {j : Int} : eqD (.int j) .non = false := rfl
@[simp] theorem eqD_ns {j : Str} : eqD .non (.str j) = false := rfl
@[simp] theorem eqD_sn {j : Str} : eqD (.str j) .non = false := rfl
@[simp] theorem inD_nil {x : D} : inD x [] = false := rfl
@[simp] theorem inD_cons {x y : D} {ys : List D} : inD x (y :: ys) = (eqD y x || inD x ys) := rfl
/-! ### comprehensions -/
/-- what is left of a comprehension whose source is known -/
def wlc (w : Src) (tg : Tg) (t : CT) (c : CE) (e : En) (s : Sto) (Q : List D → Sto → Prop) (_ : Lk1 Q := .u) : Prop := ∃ (all : List D) (I : Nat → List D → Sto → Prop), w.items s = some all ∧ all.length ≤ big ∧ I 0 [] s ∧ (∀ i ys t, I i ys t → w.items t = some all) ∧
    (∀ i x ys t1, all[i]? = some x → I i ys t1 → withT tg x e fun e' => wp (t e') t1 (fun b u => sel b (wp (c e') u (fun y v => I (i + 1) (ys ++ [y]) v) NX) (I (i + 1) ys u)) NX) ∧ ∀ ys t, I all.length ys t → Q ys t
theorem lcL_inv {src : Src} {all : List D} {tg : Tg} {t : CT} {c : CE} {e : En} {Q : List D → Sto → Prop} {E : XP} (I : Nat → List D → Sto → Prop) (hi : ∀ i ys t, I i ys t → src.items t = some all)
    (turn : ∀ i x ys t1, all[i]? = some x → I i ys t1 → withT tg x e fun e' => wp (t e') t1 (fun b u => sel b (wp (c e') u (fun y v => I (i + 1) (ys ++ [y]) v) NX) (I (i + 1) ys u)) NX) (done : ∀ ys t, I all.length ys t → Q ys t) :
    ∀ (r : List D) (i : Nat) (ys : List D) (t1 : Sto), all.drop i = r → i ≤ all.length → I i ys t1 → wp (lcL src all tg t c e r) t1 (fun zs u => Q (ys ++ zs) u) E := by
  intro r
  induction r with
  | nil =>
    intro i ys t1 hr hl h
    have : i = all.length := by
      have := congrArg List.length hr
      simp at this
      omega
    subst this
    unfold wp lcL
    rw [if_pos (hi _ ys t1 h)]
    show Q (ys ++ []) t1
    rw [List.append_nil]
    exact done ys t1 h
  | cons x r ih =>
    intro i ys t1 hr hl h
    have hlt : i < all.length := by
      have := congrArg List.length hr
      simp at this
      omega
    have hx : all[i]? = some x := by
      rw [List.drop_eq_getElem_cons hlt] at hr
      rw [List.getElem?_eq_getElem hlt]
      exact congrArg some (List.cons.inj hr).1
    have hr' : all.drop (i + 1) = r := by
      rw [List.drop_eq_getElem_cons hlt] at hr
      exact (List.cons.inj hr).2
    have k := turn i x ys t1 hx h
    unfold withT at k
    cases eb : bindT tg x e with
    | none => rw [eb] at k; exact k.elim
    | some e' =>
    rw [eb] at k
    have e1 : ∀ P E, wp (lcL src all tg t c e (x :: r)) t1 P E = wp (bnd (pur (t e')) (fun b => if b = true then bnd (pur (c e')) (fun y => bnd (lcL src all tg t c e r) fun ys => ret (y :: ys)) else lcL src all tg t c e r)) t1 P E := by
      intro P E
      unfold wp
      conv => lhs; unfold lcL
      rw [if_pos (hi i ys t1 h)]
      simp only [eb]
      all_goals rfl
    rw [e1, wp_bnd, wp_pur]
    refine wp_mono k (fun b u q => ?_) fun _ _ _ z => z.elim
    rw [wp_sel]
    cases b with
    | false =>
      rw [sel_false] at q ⊢
      exact ih (i + 1) ys u hr' hlt q
    | true =>
      rw [sel_true] at q ⊢
      rw [wp_bnd, wp_pur]
      refine wp_mono q (fun y v q => ?_) fun _ _ _ z => z.elim
      rw [wp_bnd]
      have q2 := ih (i + 1) (ys ++ [y]) v hr' hlt q
      refine wp_mono q2 (fun zs w q => ?_) fun _ _ _ z => z
      show Q (ys ++ (y :: zs)) w
      rw [← List.singleton_append, ← List.append_assoc]
      exact q
theorem r_lc {src : CS'} {tg : Tg} {vs : List Nat} {t : CT} {c : CE} {e : En} {Q : List D → Sto → Prop} {E : XP} {u : Lk2 Q E} (h : wp (src e) s (fun w t1 => wlc w tg t c (wipeE e vs) t1 Q) E) : wp (cLcA src tg vs t c e) s Q E u := by
  unfold cLcA
  rw [wp_bnd]
  refine wp_mono h (fun w t1 ⟨all, I, h1, hb, h2, h3, h4, h5⟩ => ?_) fun _ _ _ z => z
  have q := lcL_inv (E := E) I h3 h4 h5 all 0 [] t1 rfl (Nat.zero_le _) h2
  unfold wp at q ⊢
  simp only [h1, if_pos hb]
  simp only [List.nil_append] at q
  exact q
/-- over any known row -/
theorem wlc_i {w : Src} {tg : Tg} {t : CT} {c : CE} {e : En} {s : Sto} {Q : List D → Sto → Prop} {u : Lk1 Q} (all : List D) (I : Nat → List D → Sto → Prop) (hw : w.items s = some all) (hl : all.length ≤ 1000000) (h0 : I 0 [] s) (hs : ∀ i ys t, I i ys t → w.items t = some all)
    (turn : ∀ i x ys t1, all[i]? = some x → I i ys t1 → withT tg x e fun e' => wp (t e') t1 (fun b u => sel b (wp (c e') u (fun y v => dn (I (i + 1) (ys ++ [y]) v)) NX) (dn (I (i + 1) ys u))) NX) (done : ∀ ys t, I all.length ys t → Q ys t) : wlc w tg t c e s Q u := ⟨all, I, hw, hl, h0, hs, turn, done⟩
theorem wlc_r {lo : Int} {n : Nat} {tg : Tg} {t : CT} {c : CE} {e : En} {s : Sto} {Q : List D → Sto → Prop} {u : Lk1 Q} (I : Nat → List D → Sto → Prop) (hl : n ≤ 1000000) (h0 : I 0 [] s)
    (turn : ∀ i ys t1, i < n → I i ys t1 → withT tg (.int (lo + i)) e fun e' => wp (t e') t1 (fun b u => sel b (wp (c e') u (fun y v => dn (I (i + 1) (ys ++ [y]) v)) NX) (dn (I (i + 1) ys u))) NX) (done : ∀ ys t, I n ys t → Q ys t) : wlc (.rng lo n) tg t c e s Q u := by
  refine wlc_i (rngD lo n) I rfl (by rw [rngD_len]; exact hl) h0 (fun _ _ _ _ => rfl) (fun i x ys t1 hx h => ?_) (fun ys t h => ?_)
  · obtain ⟨hi, rfl⟩ := rngD_get hx
    exact turn i ys t1 hi h
  · rw [rngD_len] at h
    exact done ys t h
@[simp ↓] theorem wp_yes {e : En} {P : Bool → Sto → Prop} {E : XP} {u : Lk2 P E} : wp (tYesD e) s P E u = P true s := propext Iff.rfl
/-! ### a for that is gone through item by item -/
def wforL (tg : Tg) (b : CS) (N : En → Sto → Prop) (Rt : D → Sto → Prop) (E : XP) : List D → En → Sto → Prop
  | [], e, s => N e s
  | x :: r, e, s => withT tg x e fun e' => ws b e' s (fun e2 u => wforL tg b N Rt E r e2 u) Rt N (fun e2 u => wforL tg b N Rt E r e2 u) E
/-- the same, what comes behind locked -/
def wforK (xs : List D) (tg : Tg) (b : CS) (e : En) (s : Sto) (N : En → Sto → Prop) (Rt : D → Sto → Prop) (E : XP) (_ : Lk5 N Rt N N E := .u) : Prop := wforL tg b N Rt E xs e s
@[simp ↓] theorem wforK_nil {tg : Tg} {b : CS} {e : En} {s : Sto} {v : Lk5 N Rt N N E} : wforK [] tg b e s N Rt E v = N e s := propext Iff.rfl
@[simp ↓] theorem wforK_cons {x : D} {r : List D} {tg : Tg} {b : CS} {e : En} {s : Sto} {v : Lk5 N Rt N N E} : wforK (x :: r) tg b e s N Rt E v = withT tg x e fun e' => ws b e' s (fun e2 u => wforK r tg b e2 u N Rt E) Rt N (fun e2 u => wforK r tg b e2 u N Rt E) E := propext Iff.rfl
theorem wfor_k {w : Src} {tg : Tg} {b : CS} {e : En} {s : Sto} {v : Lk5 N Rt B C E} (all : List D) (hw : ∀ t, w.items t = some all) (h : wforK all tg b e s N Rt E) : wfor w tg b e s N Rt B C E v := by
  refine ⟨all, fun i e t => wforL tg b N Rt E (all.drop i) e t, hw s, h, fun _ _ t _ => hw t, fun i x e t hx k => ?_, fun e t k => ?_⟩
  · have hlt : i < all.length := (List.getElem?_eq_some_iff.mp hx).1
    have e1 : all.drop i = x :: all.drop (i + 1) := by
      rw [List.drop_eq_getElem_cons hlt]
      rw [List.getElem?_eq_getElem hlt] at hx
      cases hx
      rfl
    have k : wforL tg b N Rt E (all.drop i) e t := k
    rw [e1] at k
    exact k
  · have k : wforL tg b N Rt E (all.drop all.length) e t := k
    rw [List.drop_length] at k
    exact k
theorem wfor_t0 {tg : Tg} {b : CS} {e : En} {s : Sto} {v : Lk5 N Rt B C E} (h : N e s) : wfor (.seq (.tup [])) tg b e s N Rt B C E v := wfor_k [] (fun _ => rfl) h
theorem wfor_t1 {x : D} {r : List D} {tg : Tg} {b : CS} {e : En} {s : Sto} {v : Lk5 N Rt B C E} (h : wforK (x :: r) tg b e s N Rt E) : wfor (.seq (.tup (x :: r))) tg b e s N Rt B C E v := wfor_k (x :: r) (fun _ => rfl) h
/-- over a written range -/
theorem wfor_rk {lo : Int} {n : Nat} {tg : Tg} {b : CS} {e : En} {s : Sto} {v : Lk5 N Rt B C E} (h : wforK (rngD lo n) tg b e s N Rt E) : wfor (.rng lo n) tg b e s N Rt B C E v := wfor_k (rngD lo n) (fun _ => rfl) h
/-! ### == of the same data -/
mutual
def okD : D → Bool
  | .non => true
  | .bl _ => true
  | .int _ => true
  | .str x => PyData.strOk x
  | .tup ds => okL ds
  | _ => false
def okL : List D → Bool
  | [] => true
  | d :: ds => okD d && okL ds
end
mutual
def dpD : D → Nat
  | .tup ds => dpL ds + 1
  | _ => 0
def dpL : List D → Nat
  | [] => 0
  | d :: ds => max (dpD d) (dpL ds)
end
mutual
theorem dat_ok : ∀ (n : Nat) (x : D), okD x = true → dpD x < n → ∃ d : PyData, (∀ s, datD s n x = some d) ∧ d.canLay0 = true ∧ d.depth ≤ dpD x
  | 0, _, _, h => absurd h (Nat.not_lt_zero _)
  | n + 1, .non, _, _ => ⟨.none, fun _ => rfl, rfl, Nat.le_refl _⟩
  | n + 1, .bl b, _, _ => ⟨.bool b, fun _ => rfl, rfl, Nat.le_refl _⟩
  | n + 1, .int b, _, _ => ⟨.int b, fun _ => rfl, rfl, Nat.le_refl _⟩
  | n + 1, .str x, h, _ => ⟨.str x, fun _ => rfl, by simpa [okD, PyData.canLay0] using h, Nat.le_refl _⟩
  | n + 1, .tup ds, h, hd => by
    obtain ⟨xs, h1, h2, h3⟩ := datL_ok n ds (by simpa [okD] using h) (by simp [dpD] at hd; omega)
    exact ⟨.tuple xs, fun s => by show (datL (datD s n) ds).map PyData.tuple = _; rw [h1]; rfl, by simpa [PyData.canLay0] using h2, by simp [PyData.depth, dpD]; omega⟩
  | n + 1, .lst ds, h, _ => by simp [okD] at h
  | n + 1, .box ds, h, _ => by simp [okD] at h
theorem datL_ok : ∀ (n : Nat) (xs : List D), okL xs = true → dpL xs < n → ∃ ds : List PyData, (∀ s, datL (datD s n) xs = some ds) ∧ PyData.canLayAll0 ds = true ∧ PyData.depthAll ds ≤ dpL xs
  | n, [], _, _ => ⟨[], fun _ => rfl, rfl, Nat.le_refl _⟩
  | n, x :: xs, h, hd => by
    simp only [okL, Bool.and_eq_true] at h
    simp only [dpL] at hd
    obtain ⟨d, h1, h2, h3⟩ := dat_ok n x h.1 (by omega)
    obtain ⟨ds, k1, k2, k3⟩ := datL_ok n xs h.2 (by omega)
    exact ⟨d :: ds, fun s => by show (match datD s n x, datL (datD s n) xs with | some y, some ys => some (y :: ys) | _, _ => none) = _; rw [h1, k1], by simp [PyData.canLayAll0, h2, k2], by simp [PyData.depthAll, dpL]; omega⟩
end
theorem eqX_data {s : Sto} {x y : D} {d : PyData} (h : datD s 9 x = some d) (h' : datD s 9 y = some d) (h2 : d.canLay0 = true) (h3 : d.depth ≤ 64) : eqX s x y = some true := by
  unfold eqX
  cases e : eqS x y with
  | none =>
    have sh : SeqAt.shaped d = true := by unfold SeqAt.shaped; simp [h2, h3]
    simp only [h, h', sh, and_self, if_true]
    rw [SeqAt.eqv_refl d h2]
  | some b =>
    have : b = true := by
      cases x <;> cases y <;> first | (cases e) | skip
      all_goals first | rfl | exact decide_eq_true rfl | (simp only [eqS] at e; cases e; simp only [datD] at h h'; cases h; cases h'; exact decide_eq_true rfl) | (simp [datD] at h h'; done) | (simp only [datD] at h h'; cases h; cases h'; done) | (simp only [datD] at h h'; cases h; cases h'; exact decide_eq_true rfl)
    rw [this]
theorem eqX_ok0 {s : Sto} {x : D} (h : okD x = true) (hd : dpD x < 9) : eqX s x x = some true := by
  obtain ⟨d, h1, h2, h3⟩ := dat_ok 9 x h hd
  exact eqX_data (h1 s) (h1 s) h2 (by omega)
section
variable {s : Sto} {Q : D → Sto → Prop} {E : XP} {u : Lk2 Q E}
theorem r_eqO {x : D} (h : okD x = true) (hd : dpD x < 9) (k : Q (.bl true) s) : wp (dEq x x) s Q E u := r_eq (eqX_ok0 h hd) k
theorem r_neO {x : D} (h : okD x = true) (hd : dpD x < 9) (k : Q (.bl false) s) : wp (dNe x x) s Q E u := r_ne (eqX_ok0 h hd) k
end
@[simp] theorem io_tup {s : Sto} {ds : List D} : itemsOf s (.tup ds) = some ds := rfl
@[simp] theorem row_tup {s : Sto} {ds : List D} : rowOf s (.tup ds) = some ds := rfl
@[simp] theorem row_lst {s : Sto} {ds : List D} : rowOf s (.lst ds) = some ds := rfl
@[simp] theorem row_box {s : Sto} {j : Nat} : rowOf s (.box j) = lAt s j := rfl
@[simp] theorem io_lst {s : Sto} {ds : List D} : itemsOf s (.lst ds) = some ds := rfl
/-! ### tables of the module, index, zip -/
def atT (o : Option D) (k : D → Prop) (_ : Lk1 k := .u) : Prop := match o with
  | some d => k d
  | none => False
theorem atT_i {o : Option D} {d : D} {k : D → Prop} {u : Lk1 k} (h : o = some d) (q : k d) : atT o k u := by subst h; exact q
@[simp] theorem atT_some {d : D} {k : D → Prop} {u : Lk1 k} : atT (some d) k u = k d := propext Iff.rfl
@[simp] theorem tabV_nil {z : Str} : tabV [] z = none := rfl
@[simp] theorem tabV_cons {x z : Str} {d : D} {t : List (Str × D)} : tabV ((x, d) :: t) z = if x = z then some d else tabV t z := by
  unfold tabV
  by_cases c : x = z
  · rw [List.find?_cons_of_pos (by simp [c]), if_pos c]; rfl
  · rw [List.find?_cons_of_neg (by simp [c]), if_neg c]
section
variable {s : Sto} {Q : D → Sto → Prop} {E : XP} {u : Lk2 Q E}
@[simp ↓] theorem wp_tabIx {tbl : List (Str × D)} {z : Str} : wp (tabIx tbl (.str z)) s Q E u = atT (tabV tbl z) fun d => Q d s := by
  show wp (match tabV tbl z with | some d => ret d | none => noC) s Q E = _
  cases tabV tbl z <;> exact propext Iff.rfl
@[simp ↓] theorem wp_tabGet {tbl : List (Str × D)} {z : Str} {d : D} : wp (tabGet tbl (.str z) d) s Q E u = Q ((tabV tbl z).getD d) s := propext Iff.rfl
@[simp ↓] theorem wp_tupIx {ys : List Str} {z : Str} : wp (tupIx ys (.str z)) s Q E u = atT ((ys.findIdx? fun y => decide (y = z)).map fun k => D.int k) fun d => Q d s := by
  show wp (match ys.findIdx? fun y => decide (y = z) with | some k => ret (.int k) | none => noC) s Q E = _
  cases ys.findIdx? fun y => decide (y = z) <;> exact propext Iff.rfl
theorem r_index {j k : Nat} {xs : List D} {y : D} (h : At s j (.lst xs)) (c : flatD y = true ∧ xs.all flatD = true) (e : placeOf y xs = some k) (q : Q (.int k) s) : wp (dIndexL (.box j) [y]) s Q E u := by
  unfold wp dIndexL
  simp only [lAt_at h]
  rw [if_pos c]
  simp only [e]
  exact q
end
@[simp ↓] theorem wp_iZip {a b : CE} {e : En} {s : Sto} {E : XP} {P : Src → Sto → Prop} {u : Lk2 P E} : wp (iZip a b e) s P E u = wp (a e) s (fun c t => wp (b e) t (fun d v => gd ((∃ xs, rowOf v c = some xs) ∧ ∃ ys, rowOf v d = some ys) (P (.zip c d) v)) E) E := by
  unfold iZip
  rw [wp_bnd]
  refine wp_congr fun c t => ?_
  rw [wp_bnd]
  refine wp_congr fun d v => ?_
  unfold wp gd
  dsimp only
  cases q : rowOf v c with
  | none => exact propext ⟨fun z => False.elim z, fun ⟨⟨⟨_, z⟩, _⟩, _⟩ => nomatch z⟩
  | some xs =>
    cases q2 : rowOf v d with
    | none => exact propext ⟨fun z => False.elim z, fun ⟨⟨_, ⟨_, z⟩⟩, _⟩ => nomatch z⟩
    | some ys => exact propext ⟨fun z => ⟨⟨⟨xs, rfl⟩, ys, rfl⟩, z⟩, fun z => z.2⟩
/-- a new list of what a comprehension gives -/
theorem r_lcN {src : CS'} {tg : Tg} {vs : List Nat} {t : CT} {c : CE} {e : En} {s : Sto} {Q : D → Sto → Prop} {E : XP} {u : Lk2 Q E} (h : wp (src e) s (fun w t1 => wlc w tg t c (wipeE e vs) t1 (fun xs t2 => wp (alloc (.lst xs)) t2 Q E)) E) : wp (cLc src tg vs t c e) s Q E u := by
  show wp (cNew (cLcA src tg vs t c) e) s Q E
  rw [wp_cNew]
  exact r_lc h
/-! ### dicts -/
def onK (x : D) (k : Key → Prop) (_ : Lk1 k := .u) : Prop := match keyOf x with
  | some q => k q
  | none => False
@[simp ↓] theorem onK_int {i : Int} {k : Key → Prop} {u : Lk1 k} : onK (.int i) k u = k (.inl i) := propext Iff.rfl
@[simp ↓] theorem onK_str {i : Str} {k : Key → Prop} {u : Lk1 k} : onK (.str i) k u = k (.inr i) := propext Iff.rfl
@[simp ↓] theorem wp_pNil {e : En} {s : Sto} {E : XP} {P : List (Key × D) → Sto → Prop} {u : Lk2 P E} : wp (pNil e) s P E u = P [] s := propext Iff.rfl
@[simp ↓] theorem wp_pCons {k v : CE} {r : CP} {e : En} {s : Sto} {E : XP} {P : List (Key × D) → Sto → Prop} {u : Lk2 P E} : wp (pCons k v r e) s P E u = wp (k e) s (fun x t => wp (v e) t (fun y t2 => wp (r e) t2 (fun ps t3 => onK x fun q => P ((q, y) :: ps) t3) E) E) E := by
  unfold pCons
  rw [wp_bnd]
  refine wp_congr fun x t => ?_
  rw [wp_bnd]
  refine wp_congr fun y t2 => ?_
  rw [wp_bnd]
  refine wp_congr fun ps t3 => ?_
  unfold onK
  cases keyOf x <;> exact propext Iff.rfl
@[simp ↓] theorem wp_cDisp {a : CP} {e : En} {s : Sto} {E : XP} {Q : D → Sto → Prop} {u : Lk2 Q E} : wp (cDisp a e) s Q E u = wp (alloc (.dk [])) s (fun b t => wp (a e) t (fun ps v => wp (endDisp b ps) v Q E) E) E := by
  unfold cDisp
  rw [wp_bnd]
  refine wp_congr fun b t => ?_
  rw [wp_bnd]
theorem dkAt_at {s : Sto} {j : Nat} {kvs : List (Key × D)} (h : At s j (.dk kvs)) : dkAt s (.box j) = some kvs := by
  have h : s[j]? = some (.dk kvs) := h
  unfold dkAt
  simp only [h]
section
variable {s : Sto} {Q : D → Sto → Prop} {E : XP} {u : Lk2 Q E}
theorem r_disp {j : Nat} {ps : List (Key × D)} (h : At s j (.dk [])) (hl : ps.length ≤ 15) (k : ∀ t, At t j (.dk (mergeD [] ps)) → Fr [j] s t → Q (.box j) t) : wp (endDisp (.box j) ps) s Q E u := by
  have h' : s[j]? = some (.dk []) := h
  unfold wp endDisp
  simp only [h']
  rw [if_pos hl]
  exact k _ (at_set h) fr_set
theorem r_ix2 {j : Nat} {kvs : List (Key × D)} {y d : D} {k : Key} (h : At s j (.dk kvs)) (ky : keyOf y = some k) (v : valD kvs k = some d) (q : Q d s) : wp (dIx2 (.box j) y) s Q E u := by
  unfold wp dIx2
  simp only [dkAt_at h, ky, v]
  exact q
end
theorem turns_eq : turnsMost = 100000 := rfl
/-! ### unpacking, objects -/
def onIt (s : Sto) (d : D) (k : List D → Prop) (_ : Lk1 k := .u) : Prop := match itemsOf s d with
  | some ds => k ds
  | none => False
@[simp ↓] theorem onIt_tup {s : Sto} {ds : List D} {k : List D → Prop} {u : Lk1 k} : onIt s (.tup ds) k u = k ds := propext Iff.rfl
@[simp ↓] theorem onIt_lst {s : Sto} {ds : List D} {k : List D → Prop} {u : Lk1 k} : onIt s (.lst ds) k u = k ds := propext Iff.rfl
theorem onIt_i {s : Sto} {j : Nat} {ds : List D} {k : List D → Prop} {u : Lk1 k} (h : At s j (.lst ds)) (q : k ds) : onIt s (.box j) k u := by
  unfold onIt
  simp only [itemsOf, lAt_at h]
  exact q
@[simp] theorem lkF_nil {f : Str} : lkF [] f = none := rfl
@[simp] theorem lkF_cons {g f : Str} {d : D} {r : List (Str × D)} : lkF ((g, d) :: r) f = if g = f then some d else lkF r f := rfl
@[simp] theorem putFD_nil {f : Str} {d : D} : putFD f d [] = [(f, d)] := rfl
@[simp] theorem putFD_cons {g f : Str} {x d : D} {r : List (Str × D)} : putFD f d ((g, x) :: r) = if g = f then (g, d) :: r else (g, x) :: putFD f d r := rfl
theorem objAt_at {s : Sto} {j : Nat} {c : Str} {fs : List (Str × D)} (h : At s j (.ins c fs)) : objAt c s (.box j) = some fs := by
  have h : s[j]? = some (.ins c fs) := h
  unfold objAt
  simp only [h, if_pos]
theorem dkWr_at {s : Sto} {j : Nat} {kvs : List (Key × D)} (h : At s j (.dk kvs)) : dkWr s (.box j) = some kvs := by
  have h : s[j]? = some (.dk kvs) := h
  unfold dkWr
  simp only [h]
theorem dkAt_fd {s : Sto} {j : Nat} {kvs : List (Key × D)} (h : At s j (.fd kvs)) : dkAt s (.box j) = some kvs := by
  have h : s[j]? = some (.fd kvs) := h
  unfold dkAt
  simp only [h]
theorem dkAt_l {s : Sto} {j : Nat} {xs : List D} (h : At s j (.lst xs)) : dkAt s (.box j) = none := by
  have h : s[j]? = some (.lst xs) := h
  unfold dkAt
  simp only [h]
theorem dkWr_l {s : Sto} {j : Nat} {xs : List D} (h : At s j (.lst xs)) : dkWr s (.box j) = none := by
  have h : s[j]? = some (.lst xs) := h
  unfold dkWr
  simp only [h]
section
variable {e : En} {s : Sto} {Q : D → Sto → Prop} {E : XP} {u : Lk2 Q E} {N B C : En → Sto → Prop} {Rt : D → Sto → Prop} {v : Lk5 N Rt B C E}
@[simp ↓] theorem ws_unp2 {is : List Nat} {c : CE} : ws (sUnp2 is c) e s N Rt B C E v = wp (c e) s (fun d t => onIt t d fun ds => stw e is ds fun e' => N e' t) E := by
  unfold ws sUnp2
  rw [wp_lft]
  exact wp_congr fun d t => by
    unfold onIt stw wp
    dsimp only
    cases itemsOf t d with
    | none => rfl
    | some ds =>
      dsimp only
      cases stAll e is ds <;> rfl
@[simp ↓] theorem ws_sFld {c f : Str} {o w : CE} : ws (sFld c f o w) e s N Rt B C E v = wp (w e) s (fun z t => wp (o e) t (fun x u => wp (dSetF c f x z) u (fun _ r => N e r) E) E) E := by
  unfold ws sFld
  rw [wp_lft]
  refine wp_congr fun y t => ?_
  rw [wp_lft]
  refine wp_congr fun y t => ?_
  rw [wp_lft]
  rfl
@[simp ↓] theorem wp_cMth {c m : Str} {g : List D → Cm D} {o : CE} {a : CA} : wp (cMth c m g o a e) s Q E u = wp (o e) s (fun x t => wp (chkO c m x) t (fun _ u => wp (a e) u (fun xs v => wp (g (x :: xs)) v Q NX) E) E) E := by
  unfold cMth
  rw [wp_bnd]
  refine wp_congr fun _ _ => ?_
  rw [wp_bnd]
  refine wp_congr fun _ _ => ?_
  rw [wp_bnd]
  refine wp_congr fun _ _ => ?_
  rw [wp_pur]
@[simp ↓] theorem wp_cMake {c : Str} {g : List D → Cm D} {a : CA} : wp (cMake c g a e) s Q E u = wp (a e) s (fun xs t => wp (alloc (.ins c [])) t (fun b u => wp (g (b :: xs)) u (fun r v => wp (retB b r) v Q E) NX) E) E := by
  unfold cMake
  rw [wp_bnd]
  refine wp_congr fun _ _ => ?_
  rw [wp_bnd]
  refine wp_congr fun _ _ => ?_
  rw [wp_bnd, wp_pur]
@[simp ↓] theorem wp_retB {b : D} : wp (retB b .non) s Q E u = Q b s := propext Iff.rfl
theorem r_fld {j : Nat} {c f : Str} {fs : List (Str × D)} (h : At s j (.ins c fs)) (k : atT (lkF fs f) fun d => Q d s) : wp (dFld c f (.box j)) s Q E u := by
  unfold wp dFld
  simp only [objAt_at h]
  unfold atT at k
  cases q : lkF fs f with
  | none => rw [q] at k; exact k
  | some d => rw [q] at k; exact k
theorem r_setF {j : Nat} {c f : Str} {fs : List (Str × D)} {d : D} {P : Unit → Sto → Prop} {u : Lk2 P E} (h : At s j (.ins c fs)) (hl : fs.length < 1000) (k : ∀ t, At t j (.ins c (putFD f d fs)) → Fr [j] s t → P () t) : wp (dSetF c f (.box j) d) s P E u := by
  unfold wp dSetF
  simp only [objAt_at h]
  rw [if_pos hl]
  exact k _ (at_set h) fr_set
theorem r_chkO {j : Nat} {c m : Str} {fs : List (Str × D)} {P : Unit → Sto → Prop} {u : Lk2 P E} (h : At s j (.ins c fs)) (hm : lkF fs m = none) (k : P () s) : wp (chkO c m (.box j)) s P E u := by
  unfold wp chkO
  simp only [objAt_at h]
  rw [if_pos hm]
  exact k
/-! ### more of dicts -/
@[simp ↓] theorem wp_cNewD : wp (cNewD e) s Q E u = wp (alloc (.dk [])) s Q E := propext Iff.rfl
theorem r_dict {j : Nat} {kvs : List (Key × D)} (h : At s j (.dk kvs)) (k : wp (alloc (.dk kvs)) s Q E) : wp (bDict [.box j]) s Q E u := by
  unfold wp bDict
  simp only [dkAt_at h]
  exact k
@[simp ↓] theorem wp_cUpd {o k : CE} : wp (cUpd o k e) s Q E u = wp (o e) s (fun x t => wp (chkD x) t (fun _ u => wp (k e) u (fun y v => wp (dUpd x y) v Q E) E) E) E := by
  unfold cUpd
  rw [wp_bnd]
  refine wp_congr fun _ _ => ?_
  rw [wp_bnd]
  refine wp_congr fun _ _ => ?_
  rw [wp_bnd]
@[simp ↓] theorem wp_cGetD {o k d : CE} : wp (cGetD o k d e) s Q E u = wp (o e) s (fun x t => wp (chkD x) t (fun _ u => wp (k e) u (fun y v => wp (d e) v (fun z w => wp (dGetD x y z) w Q E) E) E) E) E := by
  unfold cGetD
  rw [wp_bnd]
  refine wp_congr fun _ _ => ?_
  rw [wp_bnd]
  refine wp_congr fun _ _ => ?_
  rw [wp_bnd]
  refine wp_congr fun _ _ => ?_
  rw [wp_bnd]
theorem r_chkD {j : Nat} {kvs : List (Key × D)} {P : Unit → Sto → Prop} {u : Lk2 P E} (h : At s j (.dk kvs)) (k : P () s) : wp (chkD (.box j)) s P E u := by
  unfold wp chkD
  simp only [dkAt_at h]
  exact k
theorem r_upd {i j : Nat} {kvs more : List (Key × D)} (h : At s i (.dk kvs)) (h' : At s j (.dk more)) (c : i ≠ j ∧ kvs.length + more.length ≤ big) (k : ∀ t, At t i (.dk (mergeD kvs more)) → Fr [i] s t → Q .non t) : wp (dUpd (.box i) (.box j)) s Q E u := by
  unfold wp dUpd
  simp only [dkWr_at h, dkAt_at h']
  rw [if_pos c]
  exact k _ (at_set h) fr_set
theorem r_getD {j : Nat} {kvs : List (Key × D)} {y z : D} {k : Key} (h : At s j (.dk kvs)) (ky : keyOf y = some k) (q : Q ((valD kvs k).getD z) s) : wp (dGetD (.box j) y z) s Q E u := by
  unfold wp dGetD
  simp only [dkAt_at h, ky]
  exact q
theorem r_put2D {j : Nat} {kvs : List (Key × D)} {y z : D} {k : Key} {P : Unit → Sto → Prop} {u : Lk2 P E} (h : At s j (.dk kvs)) (ky : keyOf y = some k) (hl : kvs.length < big) (q : ∀ t, At t j (.dk (putD kvs k z)) → Fr [j] s t → P () t) : wp (dPut2 (.box j) y z) s P E u := by
  unfold wp dPut2
  simp only [dkWr_at h, ky]
  rw [if_pos hl]
  exact q _ (at_set h) fr_set
theorem r_put2L {j : Nat} {xs : List D} {i : Int} {z : D} {P : Unit → Sto → Prop} {u : Lk2 P E} (h : At s j (.lst xs)) (h0 : 0 ≤ i) (h1 : i < xs.length) (k : ∀ t, At t j (.lst (xs.set i.toNat z)) → Fr [j] s t → P () t) : wp (dPut2 (.box j) (.int i) z) s P E u := by
  have q := r_putT (v := z) (u := .u) (E := E) h h0 h1 k
  unfold wp dPut2
  simp only [dkWr_l h]
  exact q
theorem r_ix2L {j : Nat} {xs : List D} {i : Int} (h : At s j (.lst xs)) (k : atK xs i fun v => Q v s) : wp (dIx2 (.box j) (.int i)) s Q E u := by
  have q := r_ix (u := .u) (E := E) h k
  unfold wp dIx2
  simp only [dkAt_l h]
  exact q
theorem r_ix2F {j : Nat} {kvs : List (Key × D)} {y d : D} {k : Key} (h : At s j (.fd kvs)) (ky : keyOf y = some k) (v : valD kvs k = some d) (q : Q d s) : wp (dIx2 (.box j) y) s Q E u := by
  unfold wp dIx2
  simp only [dkAt_fd h, ky, v]
  exact q
@[simp ↓] theorem wp_ix2T {xs : List D} {y : D} : wp (dIx2 (.tup xs) y) s Q E u = wp (dIx (.tup xs) y) s Q E := propext Iff.rfl
@[simp ↓] theorem wp_ix2M {xs : List D} {y : D} : wp (dIx2 (.lst xs) y) s Q E u = wp (dIx (.lst xs) y) s Q E := propext Iff.rfl
@[simp ↓] theorem wp_ix2S {x : Str} {y : D} : wp (dIx2 (.str x) y) s Q E u = wp (dIx (.str x) y) s Q E := propext Iff.rfl
@[simp ↓] theorem wp_in2T {neg : Bool} {xs : List D} {x : D} : wp (dIn2 neg x (.tup xs)) s Q E u = wp (dIn neg x (.tup xs)) s Q E := propext Iff.rfl
@[simp ↓] theorem wp_in2M {neg : Bool} {xs : List D} {x : D} : wp (dIn2 neg x (.lst xs)) s Q E u = wp (dIn neg x (.lst xs)) s Q E := propext Iff.rfl
theorem r_in2L {neg : Bool} {x : D} {j : Nat} {ys : List D} (h : At s j (.lst ys)) (c : flatD x = true ∧ ys.all flatD = true) (k : Q (.bl (if neg then !inD x ys else inD x ys)) s) : wp (dIn2 neg x (.box j)) s Q E u := by
  have q := r_inL (u := .u) (E := E) h c k
  unfold wp dIn2
  simp only [dkAt_l h]
  exact q
theorem r_in2D {neg : Bool} {x : D} {j : Nat} {kvs : List (Key × D)} {k : Key} (h : At s j (.dk kvs)) (ky : keyOf x = some k) (q : Q (.bl (if neg then !(valD kvs k).isSome else (valD kvs k).isSome)) s) : wp (dIn2 neg x (.box j)) s Q E u := by
  unfold wp dIn2
  simp only [dkAt_at h, ky]
  exact q
@[simp ↓] theorem wp_eq2i {i : Int} {y : D} : wp (dEq2 (.int i) y) s Q E u = wp (dEq (.int i) y) s Q E := propext Iff.rfl
@[simp ↓] theorem wp_eq2b {i : Bool} {y : D} : wp (dEq2 (.bl i) y) s Q E u = wp (dEq (.bl i) y) s Q E := propext Iff.rfl
@[simp ↓] theorem wp_eq2s {i : Str} {y : D} : wp (dEq2 (.str i) y) s Q E u = wp (dEq (.str i) y) s Q E := propext Iff.rfl
@[simp ↓] theorem wp_eq2t {i : List D} {y : D} : wp (dEq2 (.tup i) y) s Q E u = wp (dEq (.tup i) y) s Q E := propext Iff.rfl
@[simp ↓] theorem wp_eq2n {y : D} : wp (dEq2 .non y) s Q E u = wp (dEq .non y) s Q E := propext Iff.rfl
@[simp ↓] theorem wp_eq2l {i : List D} {y : D} : wp (dEq2 (.lst i) y) s Q E u = wp (dEq (.lst i) y) s Q E := propext Iff.rfl
@[simp ↓] theorem wp_ne2i {i : Int} {y : D} : wp (dNe2 (.int i) y) s Q E u = wp (dNe (.int i) y) s Q E := propext Iff.rfl
@[simp ↓] theorem wp_ne2b {i : Bool} {y : D} : wp (dNe2 (.bl i) y) s Q E u = wp (dNe (.bl i) y) s Q E := propext Iff.rfl
@[simp ↓] theorem wp_ne2s {i : Str} {y : D} : wp (dNe2 (.str i) y) s Q E u = wp (dNe (.str i) y) s Q E := propext Iff.rfl
@[simp ↓] theorem wp_ne2t {i : List D} {y : D} : wp (dNe2 (.tup i) y) s Q E u = wp (dNe (.tup i) y) s Q E := propext Iff.rfl
@[simp ↓] theorem wp_ne2n {y : D} : wp (dNe2 .non y) s Q E u = wp (dNe .non y) s Q E := propext Iff.rfl
@[simp ↓] theorem wp_ne2l {i : List D} {y : D} : wp (dNe2 (.lst i) y) s Q E u = wp (dNe (.lst i) y) s Q E := propext Iff.rfl
theorem r_eq2L {i : Nat} {xs : List D} {y : D} (h : At s i (.lst xs)) (k : wp (dEq (.box i) y) s Q E) : wp (dEq2 (.box i) y) s Q E u := by
  unfold wp dEq2
  simp only [dkWr_l h]
  exact k
theorem r_ne2L {i : Nat} {xs : List D} {y : D} (h : At s i (.lst xs)) (k : wp (dNe (.box i) y) s Q E) : wp (dNe2 (.box i) y) s Q E u := by
  unfold wp dNe2
  simp only [dkWr_l h]
  exact k
theorem r_eq2D {i j : Nat} {ks ls : List (Key × D)} (h : At s i (.dk ks)) (h' : At s j (.dk ls)) (c : alikeD ks ls = true) (k : Q (.bl true) s) : wp (dEq2 (.box i) (.box j)) s Q E u := by
  unfold wp dEq2
  simp only [dkWr_at h, dkWr_at h']
  rw [if_pos c]
  exact k
theorem r_ne2D {i j : Nat} {ks ls : List (Key × D)} (h : At s i (.dk ks)) (h' : At s j (.dk ls)) (c : alikeD ks ls = true) (k : Q (.bl false) s) : wp (dNe2 (.box i) (.box j)) s Q E u := by
  unfold wp dNe2
  simp only [dkWr_at h, dkWr_at h']
  rw [if_pos c]
  exact k
theorem ty_dk {j : Nat} {kvs : List (Key × D)} (h : At s j (.dk kvs)) : tyD s (.box j) = some "dict" := by
  have e : s[j]? = some (.dk kvs) := h
  simp only [tyD, e]
theorem r_isiDD {j : Nat} {kvs : List (Key × D)} (h : At s j (.dk kvs)) (k : Q (.bl true) s) : wp (dIsi "dict" (.box j)) s Q E u := by
  rw [wp_dIsi (t := "dict") (b := true) (ty_dk h) (by decide +kernel)]
  exact k
theorem r_isiDT {j : Nat} {kvs : List (Key × D)} (h : At s j (.dk kvs)) (k : Q (.bl false) s) : wp (dIsi "tuple" (.box j)) s Q E u := by
  rw [wp_dIsi (t := "dict") (b := false) (ty_dk h) (by decide +kernel)]
  exact k
theorem r_isiDL {j : Nat} {kvs : List (Key × D)} (h : At s j (.dk kvs)) (k : Q (.bl false) s) : wp (dIsi "list" (.box j)) s Q E u := by
  rw [wp_dIsi (t := "dict") (b := false) (ty_dk h) (by decide +kernel)]
  exact k
theorem fr_set' {j : Nat} {m : MO} {t : Sto} (h : t = s.set j m) : Fr [j] s t := by subst h; exact fr_set
theorem r_lock {i j : Nat} {c : CS} {kvs : List (Key × D)} (hi : sl e i = some (.box j)) (h : At s j (.dk kvs)) (k : ∀ t, At t j (.fd kvs) → Fr [j] s t → ws c e t (fun e' t' => At t' j (.fd kvs) ∧ ∀ u, At u j (.dk kvs) → Fr [j] t' u → N e' u) (fun d t' => At t' j (.fd kvs) ∧ ∀ u, At u j (.dk kvs) → Fr [j] t' u → Rt d u) NE NE NX) : ws (sLock i c) e s N Rt B C E v := by
  have k := k _ (at_set h) fr_set
  have h : s[j]? = some (.dk kvs) := h
  unfold ws wp at k ⊢
  unfold sLock
  simp only [hi, h]
  cases q : c e (s.set j (.fd kvs)) with
  | no => rw [q] at k; exact k
  | ex _ _ _ => rw [q] at k; exact k.elim
  | ok fl t =>
    rw [q] at k
    cases fl with
    | nx e' =>
      obtain ⟨k1, k2⟩ := k
      simp only [if_pos (show t[j]? = some (.fd kvs) ∧ (∀ c fs e2, Fl.nx e' ≠ .ex c fs e2) from ⟨k1, fun _ _ _ z => by cases z⟩)]
      exact k2 _ (at_set k1) fr_set
    | rt d =>
      obtain ⟨k1, k2⟩ := k
      simp only [if_pos (show t[j]? = some (.fd kvs) ∧ (∀ c fs e2, Fl.rt d ≠ .ex c fs e2) from ⟨k1, fun _ _ _ z => by cases z⟩)]
      exact k2 _ (at_set k1) fr_set
    | bk e' => exact k.elim
    | ct e' => exact k.elim
    | ex _ _ _ => exact k.elim
theorem r_lockA {i j : Nat} {c : CA} {kvs : List (Key × D)} {P : List D → Sto → Prop} {u : Lk2 P E} (hi : sl e i = some (.box j)) (h : At s j (.dk kvs)) (k : ∀ t, At t j (.fd kvs) → Fr [j] s t → wp (c e) t (fun ds t' => At t' j (.fd kvs) ∧ ∀ u, At u j (.dk kvs) → Fr [j] t' u → P ds u) NX) : wp (aLock i c e) s P E u := by
  have k := k _ (at_set h) fr_set
  have h : s[j]? = some (.dk kvs) := h
  unfold wp at k ⊢
  unfold aLock
  simp only [hi, h]
  cases q : c e (s.set j (.fd kvs)) with
  | no => rw [q] at k; exact k
  | ex _ _ _ => rw [q] at k; exact k.elim
  | ok ds t =>
    rw [q] at k
    obtain ⟨k1, k2⟩ := k
    simp only [if_pos (show t[j]? = some (.fd kvs) from k1)]
    exact k2 _ (at_set k1) fr_set
theorem r_keysF {i j : Nat} {kvs : List (Key × D)} {P : Src → Sto → Prop} {u : Lk2 P E} (hi : sl e i = some (.box j)) (h : At s j (.fd kvs)) (k : P (.dkeys j) s) : wp (iKeysF i e) s P E u := by
  have h : s[j]? = some (.fd kvs) := h
  unfold wp iKeysF
  simp only [hi, h]
  exact k
theorem items_dk {j : Nat} {kvs : List (Key × D)} (h : At s j (.fd kvs)) : Src.items s (.dkeys j) = some (kvs.map fun (kv : Key × D) => keyD kv.1) := by
  have h : s[j]? = some (.fd kvs) := h
  show (match s[j]? with | some (.fd kvs) => some (kvs.map fun (kv : Key × D) => keyD kv.1) | _ => none) = _
  simp only [h]
end
end
end G

set_option Elab.async false
set_option linter.all false
set_option maxRecDepth 100000
set_option maxHeartbeats 4000000
/-! G: != of rows that hold dicts, where both are alike (data level) -/
namespace G
open PySem L2
mutual
def simD (s : Sto) : Nat → D → D → Bool
  | 0, _, _ => false
  | n + 1, .tup xs, .tup ys => simL (simD s n) xs ys
  | n + 1, .box i, .box j => (match lAt s i, lAt s j with
    | some xs, some ys => simL (simD s n) xs ys
    | _, _ => (match s[i]?, s[j]? with
      | some (.dk ks), some (.dk ls) => alikeD ks ls
      | _, _ => false))
  | _ + 1, x, y => flatD x && decide (eqS y x = some true)
def simL (f : D → D → Bool) : List D → List D → Bool
  | [], [] => true
  | x :: xs, y :: ys => f x y && simL f xs ys
  | _, _ => false
end
def simT (s : Sto) : D → D → Bool
  | .tup xs, .tup ys => simL (simD s 8) xs ys
  | _, _ => false
def dNe3 (x y : D) : Cm D := fun s => if simT s x y = true then .ok (.bl false) s else .no
theorem r_ne3 {s : Sto} {x y : D} {Q : D → Sto → Prop} {E : XP} {u : Lk2 Q E} (h : simT s x y = true) (k : Q (.bl false) s) : wp (dNe3 x y) s Q E u := by
  unfold wp dNe3
  simp only [h, if_true]
  exact k
theorem simL_map {f : D → D → Bool} {g h : Int → D} : ∀ {xs : List Int}, (∀ x ∈ xs, f (g x) (h x) = true) → simL f (xs.map g) (xs.map h) = true
  | [], _ => rfl
  | x :: xs, q => by
    show (f (g x) (h x) && simL f (xs.map g) (xs.map h)) = true
    rw [q x List.mem_cons_self, simL_map fun y hy => q y (List.mem_cons_of_mem _ hy)]
    rfl
theorem sim_int {s : Sto} {n : Nat} {i : Int} : simD s (n + 1) (.int i) (.int i) = true := by simp [simD, flatD, eqS]
theorem sim_str {s : Sto} {n : Nat} {i : Str} : simD s (n + 1) (.str i) (.str i) = true := by simp [simD, flatD, eqS]
theorem sim_tup {s : Sto} {n : Nat} {xs ys : List D} (h : simL (simD s n) xs ys = true) : simD s (n + 1) (.tup xs) (.tup ys) = true := by simp only [simD]; exact h
theorem sim_dk {s : Sto} {n i j : Nat} {ks ls : List (Key × D)} (hi : At s i (.dk ks)) (hj : At s j (.dk ls)) (h : alikeD ks ls = true) : simD s (n + 1) (.box i) (.box j) = true := by
  have e1 : s[i]? = some (.dk ks) := hi
  have e2 : s[j]? = some (.dk ls) := hj
  have l1 : lAt s i = none := by unfold lAt; rw [e1]
  simp only [simD, l1, e1, e2]
  exact h
theorem sim_lst {s : Sto} {n i j : Nat} {xs ys : List D} (hi : At s i (.lst xs)) (hj : At s j (.lst ys)) (h : simL (simD s n) xs ys = true) : simD s (n + 1) (.box i) (.box j) = true := by
  simp only [simD, lAt_at hi, lAt_at hj]
  exact h
/-- d.clear() -/
def dClrD (x : D) : Cm D := fun s => match x with
  | .box j => (match s[j]? with
    | some (.dk _) => .ok .non (s.set j (.dk []))
    | _ => .no)
  | _ => .no
def cClrD (o : CE) : CE := fun e => bnd (o e) dClrD
@[simp ↓] theorem wp_cClrD {o : CE} {e : En} {s : Sto} {Q : D → Sto → Prop} {E : XP} {u : Lk2 Q E} : wp (cClrD o e) s Q E u = wp (o e) s (fun x t => wp (dClrD x) t Q E) E := by
  unfold cClrD
  rw [wp_bnd]
theorem r_clrD {j : Nat} {kvs : List (Key × D)} {s : Sto} {Q : D → Sto → Prop} {E : XP} {u : Lk2 Q E} (h : At s j (.dk kvs)) (k : ∀ t, At t j (.dk []) → Fr [j] s t → Q .non t) : wp (dClrD (.box j)) s Q E u := by
  have e : s[j]? = some (.dk kvs) := h
  unfold wp dClrD
  simp only [e]
  exact k _ (at_set h) fr_set
end G

set_option Elab.async false
set_option linter.all false
set_option maxRecDepth 100000
set_option maxHeartbeats 4000000
/-! G: != of rows that hold dicts, where both are alike (soundness) -/
namespace PySem.SeqAt
open AutoSeq1 (wpAny_loadPart')
open MeetsSeq MeetsSeq2 MeetsSeq3
section
variable {prog : Program} {w : World}
/-- two tuples whose items are alike: != answers False -/
theorem tuple_ne_same (l b : Addr) (items items2 : Array Value) (n n2 : Nat) (dd dd2 : Option Addr) (sl sl2 : Array (Option Value)) (hsz : items.size = items2.size) :
    MeetsIn prog w (Builtin.«tuple.__ne__» ⟨[.ref l, .ref b], []⟩)
      (fun A R s => s.heap.get? l = some { cls := .type "tuple", dict := dd, data := .seq items n, slots := sl } ∧ s.heap.get? b = some { cls := .type "tuple", dict := dd2, data := .seq items2 n2, slots := sl2 } ∧
        (∀ j (h1 : j < items.size) (h2 : j < items2.size), EqIn prog w A.in1 s items[j] items2[j] true) ∧ R (.ok (.ret (.bool false))) s) :=
  .of_wp fun A R s h => by
    obtain ⟨hp, g, d, tk, os⟩ := s; obtain ⟨hl, hb, he, h⟩ := h
    have f2 := AutoSeq1.sub_tuple_tuple
    wp_walk using wpAny_loadPart' hl, wpAny_loadPart' hb, wpAny_forIn_list _ (fun rest b s' => b.1 = none ∧ s' = ⟨hp, g, d, tk, os⟩ ∧ ∃ i, rest = (items.toList.zip items2.toList).drop i) _
    case turn =>
      rintro ⟨y, x⟩ rest b s' ⟨hb', rfl, i, hz⟩
      have hlt : i < (items.toList.zip items2.toList).length := by
        rcases Nat.lt_or_ge i (items.toList.zip items2.toList).length with h' | h'
        · exact h'
        · rw [List.drop_of_length_le h'] at hz; cases hz
      have h1 : i < items.size := by simp at hlt; omega
      have h2 : i < items2.size := by simp at hlt; omega
      rw [List.drop_eq_getElem_cons hlt] at hz
      injection hz with hyx hrest
      have hy : y = items[i] := by have := congrArg Prod.fst hyx; simpa using this
      have hx : x = items2[i] := by have := congrArg Prod.snd hyx; simpa using this
      subst hy hx
      refine wpAny_bind (he i h1 h2 _ _ ?_)
      wp_walk
      exact ⟨rfl, rfl, i + 1, hrest⟩
    case fin =>
      rintro ⟨b1, b2⟩ s' ⟨hb', rfl, i, hz⟩
      simp only at hb'
      subst hb'
      wp_walk
      exact ⟨_, rfl, by simpa [Builtin.Tuple.tupleCompareSizes, bne, hsz] using h⟩
    case h =>
      exact ⟨rfl, rfl, 0, rfl⟩
variable {A : Around} {E : Value → Shared → Prop} {s : Shared}
theorem ne_tuples_same {l b : Addr} {items items2 : Array Value} {Q : Value → Shared → Prop} (hl : s.heap.IsTuple l items) (hb : s.heap.IsTuple b items2) (hsz : items.size = items2.size) (hu : A.units < cLine)
    (he : ∀ j (h1 : j < items.size) (h2 : j < items2.size), EqIn prog w A.in1 s items[j] items2[j] true) (h : Q (.bool false) s) : wpAny (model prog w) A (richCompare .NotEq (.ref l) (.ref b)) Q E s := by
  obtain ⟨⟨cls, dd, data, sl⟩, ho, hc, n, hd⟩ := id hl
  obtain ⟨⟨cls2, dd2, data2, sl2⟩, ho2, hc2, n2, hd2⟩ := id hb
  simp only at hc hd hc2 hd2
  subst hc hd hc2 hd2
  exact wpAny_richCompare_same_room (T := "tuple") (op := .NotEq) ⟨_, ho, rfl⟩ ⟨_, ho2, rfl⟩ F.slot_tuple_ne (call_meetsIn F.slot_tuple_ne ⟨_, ho, rfl⟩ F.entry_tuple_ne (F.args_tuple_ne_2 _ _) (tuple_ne_same l b items items2 n n2 dd dd2 sl sl2 hsz)
    ⟨ho, ho2, he, show Value.bool false ≠ Value.notImplemented ∧ Q (.bool false) s from ⟨(fun x => nomatch x), h⟩⟩) hu
end
end PySem.SeqAt
namespace G
open PySem L2 PySem.Spec PyProof.Rows
open PySem.SeqAt (EqIn EqAt rcIn_lists rcIn_tuples)
def lfB : V → Bool
  | .non => true
  | .bl _ => true
  | .int _ => true
  | .str _ => true
  | _ => false
/-- alike, dicts within -/
inductive Sim (K : PySem.W.Frag) (H : Hp) : Nat → V → V → Prop
  | leaf {n : Nat} {v : V} : lfB v = true → Sim K H (n + 1) v v
  | tup {n : Nat} {a b : Addr} {xs ys : List V} : SqT K H a xs → SqT K H b ys → xs.length = ys.length → (∀ (i : Nat) v w, xs[i]? = some v → ys[i]? = some w → Sim K H n v w) → Sim K H (n + 1) (.ref a) (.ref b)
  | lst {n : Nat} {a b : Addr} {xs ys : List V} : SqL K H a xs → SqL K H b ys → xs.length = ys.length → (∀ (i : Nat) v w, xs[i]? = some v → ys[i]? = some w → Sim K H n v w) → Sim K H (n + 1) (.ref a) (.ref b)
  | dic {n : Nat} {a b : Addr} {ks ls : List (Key × V)} : H a = some (.dK ks) → H b = some (.dK ls) → ks.length = ls.length → (∀ p ∈ ks, valV ls p.1 = some p.2 ∧ flatB p.2 = true) → Sim K H (n + 1) (.ref a) (.ref b)
theorem eqIn_flat {prog : Program} {w : World} {A : Around} {s : Shared} {v : V} {a b : Value} (h : lfB v = true) (r1 : RelV v a) (r2 : RelV v b) : EqIn prog w A s a b true := by
  cases v <;> first | (cases h; done) | skip
  · rw [show a = _ from r1, show b = _ from r2]; exact (EqAt.same _).inModel _ _
  · rw [show a = _ from r1, show b = _ from r2]; exact (EqAt.same _).inModel _ _
  · rename_i i
    obtain ⟨t, rfl⟩ := r1
    obtain ⟨u, rfl⟩ := r2
    have := (EqAt.int_int (A := A) (s := s) i t i u).inModel prog w
    simpa using this
  · rename_i i
    obtain ⟨t, rfl⟩ := r1
    obtain ⟨u, rfl⟩ := r2
    have := (EqAt.str_str (A := A) (s := s) i t i u).inModel prog w
    simpa using this
section
variable {X : Cx} {pins : List (Addr × Obj)} {σ : L2.St} {H : Hp} {s : Shared}
theorem vals_at {xs : List V} {us : List Value} (r : Vals xs us) {j : Nat} (h : j < us.length) : ∃ v, xs[j]? = some v ∧ RelV v us[j] := by
  have hx : j < xs.length := by rw [r.length]; exact h
  obtain ⟨u, e, q⟩ := r.get (List.getElem?_eq_getElem hx)
  refine ⟨_, List.getElem?_eq_getElem hx, ?_⟩
  rw [List.getElem?_eq_getElem h] at e
  cases e
  exact q
theorem all_tt : ∀ (l : List Nat), (l.all fun _ => true) = true := fun l => List.all_eq_true.mpr fun _ _ => rfl
theorem sim_in (I : Inv X pins σ H s) {n : Nat} {v w : V} (h : Sim X.K H n v w) : ∀ (A : Around) (a b : Value), A.units + n < cLine → RelV v a → RelV w b → EqIn X.prog X.w A s a b true := by
  induction h with
  | leaf f => exact fun A a b hu r1 r2 => eqIn_flat f r1 r2
  | @tup n p q xs ys h1 h2 hl _ ih =>
    intro A a b hu r1 r2
    obtain rfl : a = Value.ref p := r1
    obtain rfl : b = Value.ref q := r2
    by_cases c : p = q
    · subst c; exact (EqAt.same _).inModel _ _
    · obtain ⟨i1, v1, t1, _⟩ := I.tuple h1
      obtain ⟨i2, v2, t2, _⟩ := I.tuple h2
      refine SeqAt.EqIn.of_refs c fun E Q hq => rcIn_tuples (e := fun _ => true) t1 t2 (by omega) (fun j j1 j2 => ?_) ?_
      · obtain ⟨x, x1, x2⟩ := vals_at v1 (j := j) (by simpa using j1)
        obtain ⟨y, y1, y2⟩ := vals_at v2 (j := j) (by simpa using j2)
        exact ih j x y x1 y1 A.in1 _ _ (by show A.units + 1 + n < cLine; omega) (by simpa using x2) (by simpa using y2)
      · have e : i1.length = i2.length := by rw [← v1.length, ← v2.length, hl]
        have z : ((List.range (min i1.toArray.size i2.toArray.size)).all (fun _ => true) && i1.toArray.size == i2.toArray.size) = true := by
          rw [all_tt]
          simp [e]
        rw [z]
        exact hq
  | @lst n p q xs ys h1 h2 hl _ ih =>
    intro A a b hu r1 r2
    obtain rfl : a = Value.ref p := r1
    obtain rfl : b = Value.ref q := r2
    by_cases c : p = q
    · subst c; exact (EqAt.same _).inModel _ _
    · obtain ⟨i1, v1, ⟨o1, n1, ho1, hc1, _, hd1⟩, _⟩ := I.list h1
      obtain ⟨i2, v2, ⟨o2, n2, ho2, hc2, _, hd2⟩, _⟩ := I.list h2
      have e : i1.length = i2.length := by rw [← v1.length, ← v2.length, hl]
      refine SeqAt.EqIn.of_refs c fun E Q hq => rcIn_lists (e := fun _ => true) (items := i1.toArray) (items2 := i2.toArray) ⟨o1, ho1, hc1, n1, hd1⟩ ⟨o2, ho2, hc2, n2, hd2⟩ (by simpa using e) (by omega) (fun j j1 j2 => ?_) ?_
      · obtain ⟨x, x1, x2⟩ := vals_at v1 (j := j) (by simpa using j1)
        obtain ⟨y, y1, y2⟩ := vals_at v2 (j := j) (by simpa using j2)
        exact ih j x y x1 y1 A.in1 _ _ (by show A.units + 1 + n < cLine; omega) (by simpa using x2) (by simpa using y2)
      · rw [all_tt]
        exact hq
  | @dic n p q ks ls h1 h2 hl hp =>
    intro A a b hu r1 r2
    obtain rfl : a = Value.ref p := r1
    obtain rfl : b = Value.ref q := r2
    by_cases c : p = q
    · subst c; exact (EqAt.same _).inModel _ _
    · obtain ⟨_, ya, va, ra, da⟩ := (show ObjOk X.prog X.w H s.heap p (.dK ks) from I.hok p _ h1)
      obtain ⟨_, yb, vb, rb, db⟩ := (show ObjOk X.prog X.w H s.heap q (.dK ls) from I.hok q _ h2)
      have hl2 : va.length = vb.length := by rw [← ra.length, ← rb.length]; exact hl
      exact SeqAt.EqIn.of_refs c fun E Q hq => PySem.W.keq_eq (knd := mixKind X.prog X.w) (r := true) ya yb da db (by omega) (fun _ => hits_all rb ra hp) (by simpa [hl2] using hq)
end
section
variable {X : Cx} {cl : Str → Addr}
def rNeS (K : PySem.W.Frag) : R2 := fun x y H Q => ∃ a b xs ys, x = .ref a ∧ y = .ref b ∧ SqT K H a xs ∧ SqT K H b ys ∧ xs.length = ys.length ∧ (∀ (i : Nat) v w, xs[i]? = some v → ys[i]? = some w → Sim K H 8 v w) ∧ Q (.bl false) H
theorem op_neS (hu : X.A.units + 64 < cLine) : OpR X (compareOp .NotEq) (rNeS X.K) := by
  intro pins s σ H x y v u Q I rx ry h
  obtain ⟨a, b, xs, ys, rfl, rfl, h1, h2, hl, hp, q⟩ := h
  obtain rfl : v = Value.ref a := rx
  obtain rfl : u = Value.ref b := ry
  obtain ⟨i1, v1, t1, _⟩ := I.tuple h1
  obtain ⟨i2, v2, t2, _⟩ := I.tuple h2
  refine SeqAt.ne_tuples_same (items := i1.toArray) (items2 := i2.toArray) t1 t2 (by simpa using (show i1.length = i2.length by rw [← v1.length, ← v2.length, hl])) (by omega) (fun j j1 j2 => ?_) ⟨.bl false, H, I, rfl, q⟩
  obtain ⟨x, x1, x2⟩ := vals_at v1 (j := j) (by simpa using j1)
  obtain ⟨y, y1, y2⟩ := vals_at v2 (j := j) (by simpa using j2)
  exact sim_in I (hp j x y x1 y1) _ _ _ (by show X.A.units + 1 + 8 < cLine; omega) (by simpa using x2) (by simpa using y2)
theorem simL_ok {K : PySem.W.Frag} {bs : List Addr} {H : Hp} {f : D → D → Bool} {T : V → V → Prop} (hf : ∀ x y v w, f x y = true → Rp K bs H x v → Rp K bs H y w → T v w) : ∀ {xs ys : List D} {vs ws : List V}, simL f xs ys = true → RpL K bs H xs vs → RpL K bs H ys ws → vs.length = ws.length ∧ ∀ (i : Nat) v w, vs[i]? = some v → ws[i]? = some w → T v w
  | [], [], _, _, _, r1, r2 => by cases r1; cases r2; exact ⟨rfl, fun i v w e => by simp at e⟩
  | [], _ :: _, _, _, h, _, _ => by simp [simL] at h
  | _ :: _, [], _, _, h, _, _ => by simp [simL] at h
  | x :: xs, y :: ys, _, _, h, r1, r2 => by
    simp only [simL, Bool.and_eq_true] at h
    cases r1 with
    | cons p1 q1 =>
      cases r2 with
      | cons p2 q2 =>
        obtain ⟨e, g⟩ := simL_ok hf h.2 q1 q2
        refine ⟨by simp [e], fun i v w e1 e2 => ?_⟩
        cases i with
        | zero => cases e1; cases e2; exact hf _ _ _ _ h.1 p1 p2
        | succ i => exact g i v w (by simpa using e1) (by simpa using e2)
theorem simD_ok {K : PySem.W.Frag} {bs : List Addr} {s : Sto} {H : Hp} (S : StR K cl bs s H) : ∀ (n : Nat) (x y : D) (v w : V), simD s n x y = true → Rp K bs H x v → Rp K bs H y w → Sim K H n v w
  | 0, x, y, _, _, h, _, _ => by simp [simD] at h
  | n + 1, x, y, v, w, h, r1, r2 => by
    have fl : (flatD x && decide (eqS y x = some true)) = true → Sim K H (n + 1) v w := fun h => by
      simp only [Bool.and_eq_true, decide_eq_true_eq] at h
      obtain ⟨e1, e2⟩ := flat_eq h.1 h.2 r1 r2
      rw [e1]
      refine .leaf ?_
      have h0 := h.1
      cases r1 <;> first | rfl | (cases h0; done)
    cases x with
    | non => exact fl (by simpa [simD] using h)
    | bl b => exact fl (by simpa [simD] using h)
    | int b => exact fl (by simpa [simD] using h)
    | str b => exact fl (by simpa [simD] using h)
    | lst b => exact fl (by simpa [simD] using h)
    | tup xs =>
      cases y with
      | tup ys =>
        simp only [simD] at h
        cases r1 with
        | tup h1 q1 =>
          cases r2 with
          | tup h2 q2 =>
            obtain ⟨e, g⟩ := simL_ok (T := Sim K H n) (fun x y v w e p q => simD_ok S n x y v w e p q) h q1 q2
            exact .tup (sqT_mono (fun a o e => (hid_some e).2) h1) (sqT_mono (fun a o e => (hid_some e).2) h2) e g
      | _ => exact fl (by simpa [simD] using h)
    | box i =>
      cases y with
      | box j =>
        simp only [simD] at h
        cases e1 : lAt s i with
        | some xs =>
          cases e2 : lAt s j with
          | some ys =>
            rw [e1, e2] at h
            simp only at h
            obtain ⟨p, vs, rfl, _, a2, a3⟩ := S.lst e1 r1
            obtain ⟨q, ws, rfl, _, b2, b3⟩ := S.lst e2 r2
            obtain ⟨e, g⟩ := simL_ok (T := Sim K H n) (fun x y v w e p q => simD_ok S n x y v w e p q) h a3 b3
            exact .lst (SqL.of a2) (SqL.of b2) e g
          | none =>
            rw [e1, e2] at h
            unfold lAt at e1
            split at e1
            · rename_i z
              rw [z] at h
              simp at h
            · cases e1
        | none =>
          rw [e1] at h
          simp only at h
          split at h
          · rename_i ks ls z1 z2
            have q1 : dkWr s (.box i) = some ks := by show (match s[i]? with | some (MO.dk kvs) => some kvs | x => none) = _; rw [z1]
            have q2 : dkWr s (.box j) = some ls := by show (match s[j]? with | some (MO.dk kvs) => some kvs | x => none) = _; rw [z2]
            obtain ⟨_, a, kv, _, _, rfl, _, f2, f3⟩ := dk_wr S r1 q1
            obtain ⟨_, b, lv, _, _, rfl, _, f5, f6⟩ := dk_wr S r2 q2
            obtain ⟨g1, g2⟩ := alike_ok h f3 f6
            exact .dic f2 f5 g1 g2
          · cases h
      | _ => exact fl (by simpa [simD] using h)
theorem og_ne3 (hu : X.A.units + 64 < cLine) : OpG X cl (compareOp .NotEq) dNe3 := by
  refine ⟨_, op_neS hu, ?_⟩
  intro W bs s H x y v w Q S r1 r2 h
  by_cases c : simT s x y = true
  · have q := Run.of_ok h (a := .bl false) (t := s) (by unfold dNe3; rw [if_pos c]) bs H (Gr.refl _ _) S _ (.bl _)
    cases x with
    | tup xs =>
      cases y with
      | tup ys =>
        have c : simL (simD s 8) xs ys = true := c
        cases r1 with
        | tup h1 q1 =>
          cases r2 with
          | tup h2 q2 =>
            obtain ⟨e, g⟩ := simL_ok (T := Sim X.K H 8) (fun x y v w e p q => simD_ok S 8 x y v w e p q) c q1 q2
            exact ⟨_, _, _, _, rfl, rfl, sqT_mono (fun a o e => (hid_some e).2) h1, sqT_mono (fun a o e => (hid_some e).2) h2, e, g, q⟩
      | _ => simp [simT] at c
    | _ => simp [simT] at c
  · exact (Run.of_no h (by unfold dNe3; rw [if_neg c])).elim
variable {W : WX} {o : Expr} {co : CE} {apos cpos : Pos}
theorem s_clearD (ho : SE X cl W o co) (hbase : attributeBase o "clear" X.env (eval o X.env) = eval o X.env := by rfl) (hline : (apos.endLine == cpos.line) = true := by rfl) : SE X cl W (.Call (.Attribute o "clear" apos) [] [] cpos) (cClrD co) :=
  PE.imp (pe_dclear ho hbase hline) fun σ H Q ⟨bs, s, e, S, N, h⟩ => by
    refine ⟨bs, s, e, S, N, (Run.bnd h).imp fun x b1 t1 H1 g1 S1 h1 v r1 => ?_⟩
    cases q : dkWr t1 x with
    | none => exact (Run.of_no h1 (by
        unfold dClrD
        cases x with
        | box j =>
          unfold dkWr at q
          cases z : t1[j]? with
          | none => simp only [z]
          | some m => cases m <;> first | (simp only [z]; done) | (simp [z] at q; done)
        | _ => rfl)).elim
    | some kvs =>
      obtain ⟨j, p, ws, rfl, a1, rfl, a2, a3, a4⟩ := dk_wr S1 r1 q
      refine ⟨.inr (.inr (.inl ⟨rfl, .inl ⟨ws, a3⟩⟩)), p, ws, rfl, rfl, a3, ?_⟩
      exact h1.of_ok (a := .non) (t := t1.set j (.dk [])) (by unfold dClrD; simp only [a1]) b1 _ (gr_write a2 a3) (S1.write a2 a3 (m := .dk []) (o := .dK []) .nil) _ .non
end
end G

set_option Elab.async false
set_option linter.all false
set_option maxRecDepth 100000
set_option maxHeartbeats 4000000
/-! plain arithmetic: powers of two, how many times two goes into a number -/
namespace P
open PySem L2 G
theorem npow_pos (n : Nat) : (0 : Int) < 2 ^ n := Int.pow_pos (by decide)
theorem pow_nat (n : Nat) : (2 : Int) ^ n = ((2 ^ n : Nat) : Int) := by simp
theorem npow_le {n m : Nat} (h : n ≤ m) : (2 : Int) ^ n ≤ 2 ^ m := by
  rw [pow_nat, pow_nat]
  exact Int.ofNat_le.mpr (Nat.pow_le_pow_right (by decide) h)
theorem npow_add (n m : Nat) : (2 : Int) ^ (n + m) = 2 ^ n * 2 ^ m := Int.pow_add 2 n m
/-- how many times two goes into a natural number (fuel: the number itself) -/
def tzN : Nat → Nat → Nat
  | 0, _ => 0
  | f + 1, v => if v % 2 = 0 then tzN f (v / 2) + 1 else 0
/-- Z(v): 32 for nought -/
def zn (v : Int) : Nat := if v = 0 then 32 else tzN v.natAbs v.natAbs
def zv (v : Int) : Int := zn v
theorem tzN_odd {f : Nat} {o t : Nat} (h : o % 2 = 1) (hf : t < f) : tzN f (o * 2 ^ t) = t := by
  induction t generalizing f with
  | zero =>
    cases f with
    | zero => omega
    | succ f =>
      unfold tzN
      rw [Nat.pow_zero, Nat.mul_one, if_neg (by omega)]
  | succ t ih =>
    cases f with
    | zero => omega
    | succ f =>
      unfold tzN
      have e : o * 2 ^ (t + 1) = 2 * (o * 2 ^ t) := by rw [Nat.pow_succ]; ac_rfl
      rw [e, if_pos (by omega)]
      have e2 : 2 * (o * 2 ^ t) / 2 = o * 2 ^ t := by omega
      rw [e2, ih (by omega)]
theorem lt_pow (t : Nat) : t < 2 ^ t := Nat.lt_two_pow_self
theorem zn_odd {o : Int} {t : Nat} (h : o % 2 = 1) : zn (o * 2 ^ t) = t := by
  have hp := npow_pos t
  have ne : o * 2 ^ t ≠ 0 := Int.mul_ne_zero (by omega) (by omega)
  unfold zn
  rw [if_neg ne]
  have e : (o * 2 ^ t).natAbs = o.natAbs * 2 ^ t := by rw [Int.natAbs_mul, pow_nat, Int.natAbs_natCast]
  rw [e]
  refine tzN_odd (by omega) ?_
  have h1 : 1 ≤ o.natAbs := by omega
  have h2 := lt_pow t
  have h3 : 1 * 2 ^ t ≤ o.natAbs * 2 ^ t := Nat.mul_le_mul_right _ h1
  omega
/-- every number but nought is an odd one moved -/
theorem odd_ex : ∀ (n : Nat) (v : Int), v.natAbs ≤ n → v ≠ 0 → ∃ (o : Int) (t : Nat), o % 2 = 1 ∧ v = o * 2 ^ t
  | 0, v, h, n => absurd (by omega) n
  | n + 1, v, h, ne => by
    by_cases e : v % 2 = 0
    · obtain ⟨o, t, h1, h2⟩ := odd_ex n (v / 2) (by omega) (by omega)
      refine ⟨o, t + 1, h1, ?_⟩
      have : v = 2 * (v / 2) := by omega
      rw [Int.pow_succ, ← Int.mul_assoc, ← h2]
      omega
    · exact ⟨v, 0, by omega, by rw [Int.pow_zero, Int.mul_one]⟩
theorem odd_of {v : Int} (h : v ≠ 0) : ∃ (o : Int) (t : Nat), o % 2 = 1 ∧ v = o * 2 ^ t ∧ zn v = t := by
  obtain ⟨o, t, h1, h2⟩ := odd_ex v.natAbs v (Nat.le_refl _) h
  exact ⟨o, t, h1, h2, by rw [h2]; exact zn_odd h1⟩
theorem zn_neg (v : Int) : zn (-v) = zn v := by
  unfold zn
  by_cases h : v = 0
  · subst h; rfl
  · rw [if_neg h, if_neg (by omega), Int.natAbs_neg]
theorem dvd_zn {v : Int} (h : v ≠ 0) (z : Nat) : v % 2 ^ z = 0 ↔ z ≤ zn v := by
  obtain ⟨o, t, h1, h2, h3⟩ := odd_of h
  rw [h3]
  constructor
  · intro e
    by_cases c : z ≤ t
    · exact c
    · exfalso
      have d : (2 : Int) ^ z ∣ o * 2 ^ t := by rw [← h2]; exact Int.dvd_of_emod_eq_zero e
      have e1 : z = (t + 1) + (z - (t + 1)) := by omega
      have d2 : (2 : Int) ^ (t + 1) ∣ o * 2 ^ t := Int.dvd_trans ⟨2 ^ (z - (t + 1)), by rw [← npow_add, ← e1]⟩ d
      obtain ⟨k, hk⟩ := d2
      rw [Int.pow_succ] at hk
      have hp := npow_pos t
      have : o = 2 * k := by
        have e3 : (2 : Int) ^ t * o = 2 ^ t * (2 * k) := by
          rw [Int.mul_comm, hk]; simp only [Int.mul_assoc]
        exact Int.eq_of_mul_eq_mul_left (by omega) e3
      omega
  · intro c
    have e1 : t = z + (t - z) := by omega
    rw [h2, e1, npow_add]
    have : o * (2 ^ z * 2 ^ (t - z)) = 2 ^ z * (o * 2 ^ (t - z)) := by ac_rfl
    rw [this]
    exact Int.mul_emod_right _ _
theorem zn_lt {v : Int} (h0 : v ≠ 0) {n : Nat} (h : v.natAbs < 2 ^ n) : zn v < n := by
  obtain ⟨o, t, h1, h2, h3⟩ := odd_of h0
  rw [h3]
  by_cases c : t < n
  · exact c
  · exfalso
    have e : v.natAbs = o.natAbs * 2 ^ t := by rw [h2, Int.natAbs_mul, pow_nat, Int.natAbs_natCast]
    have h4 : 1 ≤ o.natAbs := by omega
    have h5 : 1 * 2 ^ t ≤ o.natAbs * 2 ^ t := Nat.mul_le_mul_right _ h4
    have h6 : 2 ^ n ≤ 2 ^ t := Nat.pow_le_pow_right (by decide) (by omega)
    omega
/-- x and its opposite, bit by bit -/
theorem and_pred {q t : Nat} : ((2 * q + 1) * 2 ^ t) &&& ((2 * q + 1) * 2 ^ t - 1) = 2 * q * 2 ^ t := by
  have hp : 0 < 2 ^ t := Nat.two_pow_pos t
  have e1 : (2 * q + 1) * 2 ^ t = 2 ^ t * (2 * q + 1) + 0 := Nat.mul_comm _ _
  have e2 : (2 * q + 1) * 2 ^ t - 1 = 2 ^ t * (2 * q) + (2 ^ t - 1) := by rw [Nat.mul_comm, Nat.mul_add]; omega
  have e3 : 2 * q * 2 ^ t = 2 ^ t * (2 * q) + 0 := Nat.mul_comm _ _
  rw [e2, e1, e3]
  apply Nat.eq_of_testBit_eq
  intro j
  rw [Nat.testBit_and, Nat.testBit_two_pow_mul_add _ hp, Nat.testBit_two_pow_mul_add _ (by omega), Nat.testBit_two_pow_mul_add _ hp]
  by_cases c : j < t
  · simp [c]
  · simp only [c, if_false]
    cases hj : j - t with
    | zero => simp
    | succ k =>
      rw [Nat.testBit_succ, Nat.testBit_succ]
      have : (2 * q + 1) / 2 = 2 * q / 2 := by omega
      rw [this, Bool.and_self]
theorem and_neg {o : Int} {t : Nat} (h0 : 0 < o) (h : o % 2 = 1) : Builtin.bitAnd (o * 2 ^ t) (0 - o * 2 ^ t) = 2 ^ t := by
  obtain ⟨q, rfl⟩ : ∃ q : Nat, o = 2 * (q : Int) + 1 := ⟨(o / 2).toNat, by omega⟩
  have hp := npow_pos t
  have hx : (2 * (q : Int) + 1) * 2 ^ t = (((2 * q + 1) * 2 ^ t : Nat) : Int) := by rw [pow_nat]; simp
  have hpos : 0 < (2 * q + 1) * 2 ^ t := Nat.mul_pos (by omega) (Nat.two_pow_pos t)
  rw [hx]
  unfold Builtin.bitAnd
  rw [show decide (0 ≤ (((2 * q + 1) * 2 ^ t : Nat) : Int)) = true from decide_eq_true (by omega), show decide (0 ≤ 0 - (((2 * q + 1) * 2 ^ t : Nat) : Int)) = false from decide_eq_false (by omega)]
  simp only
  have e : (Builtin.bitNot (0 - (((2 * q + 1) * 2 ^ t : Nat) : Int))).toNat = (2 * q + 1) * 2 ^ t - 1 := by
    unfold Builtin.bitNot
    omega
  rw [e, Int.toNat_natCast, and_pred, pow_nat]
  have e2 : (2 * q + 1) * 2 ^ t = 2 * q * 2 ^ t + 2 ^ t := by rw [Nat.add_mul, Nat.one_mul]
  omega
theorem bitAnd_comm (x y : Int) : Builtin.bitAnd x y = Builtin.bitAnd y x := by
  unfold Builtin.bitAnd
  cases decide (0 ≤ x) <;> cases decide (0 ≤ y) <;> simp only [Nat.and_comm, Nat.or_comm]
theorem bits_pow (t : Nat) : Builtin.Int.intBits ((2 : Int) ^ t) = t + 1 := by
  have e : ((2 : Int) ^ t).natAbs = 2 ^ t := by rw [pow_nat, Int.natAbs_natCast]
  have h1 : Builtin.Int.intBits ((2 : Int) ^ t) ≤ t + 1 := intBits_le_iff.mpr (by rw [e]; exact Nat.pow_lt_pow_right (by decide) (by omega))
  have h2 : ¬ Builtin.Int.intBits ((2 : Int) ^ t) ≤ t := fun h => by
    have := intBits_le_iff.mp h
    rw [e] at this
    omega
  omega
/-! ### the same by p2 -/
theorem p2_def {z : Int} : p2 z = 2 ^ z.toNat := rfl
theorem p2_add {a b : Int} (ha : 0 ≤ a) (hb : 0 ≤ b) : p2 (a + b) = p2 a * p2 b := by
  unfold p2
  rw [← npow_add]
  congr 1
  omega
theorem p2_le {a b : Int} (h : a ≤ b) : p2 a ≤ p2 b := npow_le (by omega)
theorem p2_one (a : Int) : 1 ≤ p2 a := by have := p2_pos (z := a); omega
theorem p2_sub {a b : Int} (ha : 0 ≤ a) (hb : a ≤ b) : p2 b = p2 (b - a) * p2 a := by
  rw [← p2_add (by omega) ha]
  congr 1
  omega
theorem p2_succ {a : Int} (ha : 0 ≤ a) : p2 (a + 1) = 2 * p2 a := by
  rw [p2_add ha (by omega)]
  show p2 a * 2 = _
  omega
theorem p2_le32 {a : Int} (h : a ≤ 32) : p2 a ≤ 4294967296 := p2_le (b := 32) h
theorem p2_dvd {a b : Int} (ha : 0 ≤ a) (hb : a ≤ b) : p2 a ∣ p2 b := ⟨p2 (b - a), by rw [p2_sub ha hb, Int.mul_comm]⟩
theorem mod_of_le {v a b : Int} (ha : 0 ≤ a) (hb : a ≤ b) (h : v % p2 b = 0) : v % p2 a = 0 :=
  Int.emod_eq_zero_of_dvd (Int.dvd_trans (p2_dvd ha hb) (Int.dvd_of_emod_eq_zero h))
theorem zv0 : zv 0 = 32 := rfl
theorem zv_pos {v : Int} : 0 ≤ zv v := Int.natCast_nonneg _
theorem zv_dvd {v z : Int} (h : v ≠ 0) (hz : 0 ≤ z) : v % p2 z = 0 ↔ z ≤ zv v := by
  unfold p2 zv
  rw [dvd_zn h]
  omega
theorem zv_mod (v : Int) : v % p2 (zv v) = 0 := by
  by_cases h : v = 0
  · subst h; rfl
  · exact (zv_dvd h zv_pos).mpr (Int.le_refl _)
theorem zv_le {v : Int} (h0 : 0 ≤ v) (h : v < 4294967296) : zv v ≤ 32 := by
  by_cases c : v = 0
  · rw [c]; exact Int.le_refl _
  · have := zn_lt (v := v) c (n := 32) (by omega)
    unfold zv
    omega
theorem zv_leA {v : Int} (h0 : -4294967296 < v) (h : v < 4294967296) : zv v ≤ 32 := by
  by_cases c : v = 0
  · rw [c]; exact Int.le_refl _
  · have := zn_lt (v := v) c (n := 32) (by omega)
    unfold zv
    omega
theorem zv_neg (v : Int) : zv (-v) = zv v := by unfold zv; rw [zn_neg]
theorem zv_half {v : Int} (h : v ≠ 0) (h2 : v % 2 = 0) : v / 2 ≠ 0 ∧ zv (v / 2) = zv v - 1 ∧ 1 ≤ zv v := by
  obtain ⟨o, t, h1, h3, h4⟩ := odd_of h
  cases t with
  | zero => rw [h3] at h2; omega
  | succ n =>
    have e : v / 2 = o * 2 ^ n := by
      rw [h3, Int.pow_succ, ← Int.mul_assoc]
      exact Int.mul_ediv_cancel _ (by decide)
    refine ⟨by omega, ?_, ?_⟩
    · unfold zv
      rw [e, zn_odd h1, h4]
      omega
    · unfold zv
      rw [h4]
      omega
theorem zv_odd0 {v : Int} (h2 : ¬ v % 2 = 0) : zv v = 0 := by
  have h : v ≠ 0 := fun e => by subst e; exact h2 rfl
  have := (zv_dvd h (z := 1) (by decide)).mpr
  have h0 := zv_pos (v := v)
  by_cases c : 1 ≤ zv v
  · exact absurd (this c) h2
  · omega
theorem mod_lo {x m : Int} (h : 0 < m) : 0 ≤ x % m := Int.emod_nonneg _ (by omega)
theorem mod_hi {x m : Int} (h : 0 < m) : x % m < m := Int.emod_lt_of_pos _ h
theorem mul_mod {a z : Int} : (a * p2 z) % p2 z = 0 := Int.mul_emod_left _ _
theorem mod_add {a b m : Int} (ha : a % m = 0) (hb : b % m = 0) : (a + b) % m = 0 := Int.emod_eq_zero_of_dvd (Int.dvd_add (Int.dvd_of_emod_eq_zero ha) (Int.dvd_of_emod_eq_zero hb))
theorem mod_sub {a b m : Int} (ha : a % m = 0) (hb : b % m = 0) : (a - b) % m = 0 := Int.emod_eq_zero_of_dvd (Int.dvd_sub (Int.dvd_of_emod_eq_zero ha) (Int.dvd_of_emod_eq_zero hb))
theorem world_mod {z : Int} (h0 : 0 ≤ z) (h : z ≤ 32) : (4294967296 : Int) % p2 z = 0 := Int.emod_eq_zero_of_dvd (p2_dvd (b := 32) h0 h)
theorem self_mod {z : Int} : p2 z % p2 z = 0 := Int.emod_self
/-- multiples of a power, one below another -/
theorem mod_gap {a b m : Int} (hm : 0 < m) (ha : a % m = 0) (hb : b % m = 0) (h : a < b) : a + m ≤ b := by
  obtain ⟨i, rfl⟩ := Int.dvd_of_emod_eq_zero ha
  obtain ⟨j, rfl⟩ := Int.dvd_of_emod_eq_zero hb
  have : i < j := by
    by_cases c : i < j
    · exact c
    · have := Int.mul_le_mul_of_nonneg_left (show j ≤ i by omega) (Int.le_of_lt hm)
      omega
  have h2 := Int.mul_le_mul_of_nonneg_left (show i + 1 ≤ j by omega) (Int.le_of_lt hm)
  rw [Int.mul_add, Int.mul_one] at h2
  exact h2
theorem mod_rest {v z : Int} (h0 : 0 ≤ z) (h : z ≤ 32) (hv : v % p2 z = 0) : v % 4294967296 % p2 z = 0 := by
  show v % p2 32 % p2 z = 0
  rw [Int.emod_emod_of_dvd _ (p2_dvd (b := 32) h0 h)]
  exact hv
theorem div_mul_mod {a z : Int} : a / p2 z * p2 z = a - a % p2 z := by
  have := Int.mul_ediv_add_emod a (p2 z)
  rw [Int.mul_comm] at this
  omega
theorem le_mul {x h z : Int} (hx : x % p2 z = 0) (h1 : x ≤ h) : x ≤ h - h % p2 z := by
  have hp := p2_pos (z := z)
  have a := mod_lo (x := h) hp
  have b := mod_hi (x := h) hp
  by_cases c : x ≤ h - h % p2 z
  · exact c
  · have e : (h - h % p2 z) % p2 z = 0 := by rw [← div_mul_mod]; exact mul_mod
    have := mod_gap hp e hx (by omega)
    omega
theorem div_bd {v m : Int} (h0 : 0 ≤ v) (hm : 0 < m) : 0 ≤ v / m ∧ v / m ≤ v := ⟨Int.ediv_nonneg h0 (by omega), Int.ediv_le_self _ h0⟩
theorem mod1 (x : Int) : x % p2 0 = 0 := by show x % 1 = 0; omega
end P

set_option Elab.async false
set_option linter.all false
set_option maxRecDepth 100000
set_option maxHeartbeats 4000000
/-! the data level of each def -/
namespace P
open PySem L2 G
noncomputable section
def c_rest : CS := sRet (cBin dMod (cV 0) (cBin dShl (cK (.int 1)) (cV 1)))
def g_rest : List D → Cm D := dfn 2 2 c_rest
theorem u_rest {a0 a1 : D} {s : Sto} {Q : D → Sto → Prop} {E : XP} {u : Lk2 Q E} (k : ws c_rest [some a0, some a1] s (fun _ t => Q .non t) Q NE NE E) : wp (g_rest [a0, a1]) s Q E u := wp_dfn rfl k
def c_signed : CS := sSeq (sIf (tE (cBin dGe (cV 0) (cBin dShl (cK (.int 1)) (cBin dSub (cV 1) (cK (.int 1)))))) (sRet (cBin dSub (cV 0) (cBin dShl (cK (.int 1)) (cV 1)))) (sNil)) (sRet (cV 0))
def g_signed : List D → Cm D := dfn 2 2 c_signed
theorem u_signed {a0 a1 : D} {s : Sto} {Q : D → Sto → Prop} {E : XP} {u : Lk2 Q E} (k : ws c_signed [some a0, some a1] s (fun _ t => Q .non t) Q NE NE E) : wp (g_signed [a0, a1]) s Q E u := wp_dfn rfl k
def c_law_deal : CS := sSeq (sSet 2 (cBin dAdd (cBin dMul (cK (.int 7919)) (cV 1)) (cK (.int 11)))) (sSeq (sSet 3 (cK (.int 1))) (sSeq (sIf (tE (cBin dGt (cCall bLen (aCons (cV 0) (aNil))) (cK (.int 0)))) (sSeq (sSet 2 (cBin dAdd (cBin dMul (cBin dIx (cV 0) (cBin dMod (cV 1) (cCall bLen (aCons (cV 0) (aNil))))) (cK (.int 48271))) (cBin dMul (cBin dMul (cK (.int 7919)) (cV 1)) (cV 1)))) (sSet 3 (cBin dMod (cBin dIx (cV 0) (cK (.int 0))) (cK (.int 2))))) (sNil)) (sSeq (sIf (tE (cBin dGe (cV 1) (cCall bLen (aCons (cV 0) (aNil))))) (sSet 3 (cK (.int 1))) (sNil)) (sSeq (sSet 4 (cK (.int 0))) (sSeq (sIf (tE (cBin dLt (cV 1) (cCall bLen (aCons (cV 0) (aNil))))) (sSet 4 (cBin dIx (cV 0) (cV 1))) (sNil)) (sSeq (sIf (tE (cBin dLt (cV 4) (cK (.int 0)))) (sSet 4 (cBin dSub (cK (.int 0)) (cV 4))) (sNil)) (sRet (cLst (aCons (cV 3) (aCons (cV 4) (aCons (cBin dAdd (cBin dMod (cV 2) (cK (.int 2147483647))) (cBin dMod (cV 4) (cK (.int 2147483629)))) (aNil))))))))))))
def g_law_deal : List D → Cm D := dfn 2 5 c_law_deal
theorem u_law_deal {a0 a1 : D} {s : Sto} {Q : D → Sto → Prop} {E : XP} {u : Lk2 Q E} (k : ws c_law_deal [some a0, some a1, none, none, none] s (fun _ t => Q .non t) Q NE NE E) : wp (g_law_deal [a0, a1]) s Q E u := wp_dfn rfl k
def c_law_draw : CS := sSeq (sIf (tAnd' (tE (cBin dEq (cBin dIx (cV 0) (cK (.int 0))) (cK (.int 0)))) (tE (cBin dGt (cBin dIx (cV 0) (cK (.int 1))) (cK (.int 0))))) (sSeq (sSet 5 (cBin dMod (cBin dIx (cV 0) (cK (.int 1))) (cV 1))) (sSeq (sPut dPutL (cV 0) (cK (.int 1)) (cBin dDiv (cBin dIx (cV 0) (cK (.int 1))) (cV 1))) (sRet (cV 5)))) (sNil)) (sSeq (sSet 2 (cBin dMod (cBin dAdd (cBin dMul (cBin dIx (cV 0) (cK (.int 2))) (cK (.int 48271))) (cK (.int 7919))) (cK (.int 2147483647)))) (sSeq (sPut dPutL (cV 0) (cK (.int 2)) (cBin dMod (cBin dAdd (cBin dMul (cV 2) (cK (.int 40692))) (cK (.int 104729))) (cK (.int 2147483399)))) (sSeq (sSet 3 (cBin dMod (cBin dMul (cV 2) (cV 2)) (cK (.int 2147483629)))) (sSeq (sSet 4 (cBin dMod (cBin dMul (cBin dIx (cV 0) (cK (.int 2))) (cBin dIx (cV 0) (cK (.int 2)))) (cK (.int 2147483563)))) (sRet (cBin dMod (cBin dAdd (cBin dMul (cV 3) (cK (.int 2147483563))) (cV 4)) (cV 1)))))))
def g_law_draw : List D → Cm D := dfn 2 6 c_law_draw
theorem u_law_draw {a0 a1 : D} {s : Sto} {Q : D → Sto → Prop} {E : XP} {u : Lk2 Q E} (k : ws c_law_draw [some a0, some a1, none, none, none, none] s (fun _ t => Q .non t) Q NE NE E) : wp (g_law_draw [a0, a1]) s Q E u := wp_dfn rfl k
def c_fields_of : CS := sRet (cBin (tabGet [("stop", .str ""), ("put", .str "a"), ("more", .str "abn"), ("load", .str "abn"), ("store", .str "abn"), ("jump", .str "n"), ("jumpif", .str "an"), ("through", .str "b"), ("fit", .str "ab"), ("aim", .str "ab"), ("gate", .str "n")]) (cV 0) (cK (.str "abc")))
def g_fields_of : List D → Cm D := dfn 1 1 c_fields_of
theorem u_fields_of {a0 : D} {s : Sto} {Q : D → Sto → Prop} {E : XP} {u : Lk2 Q E} (k : ws c_fields_of [some a0] s (fun _ t => Q .non t) Q NE NE E) : wp (g_fields_of [a0]) s Q E u := wp_dfn rfl k
def c_words_of : CS := sSeq (sSet 1 (cBin dIx (cV 0) (cK (.int 0)))) (sSeq (sSet 2 (cBin dShl (cUn (tupIx ["stop", "put", "add", "sub", "and", "or", "xor", "less", "left", "right", "more", "load", "store", "jump", "jumpif", "through", "fit", "aim", "gate"]) (cV 1)) (cK (.int 27)))) (sSeq (sFor (iZip (cCall g_fields_of (aCons (cV 1) (aNil))) (cSl (cV 0) (oSome (cK (.int 1))) (oNone))) (.t [3, 4]) (sAug 2 iAdd (cBin dShl (cCall g_rest (aCons (cV 4) (aCons (cK (.int 18)) (aNil)))) (cUn (tabIx [("a", .int 24), ("b", .int 21), ("c", .int 18), ("n", .int 0)]) (cV 3))))) (sSeq (sIf (tE (cBin dEq (cV 1) (cK (.str "put")))) (sRet (cLst (aCons (cV 2) (aCons (cBin dIx (cV 0) (cK (.int 2))) (aNil))))) (sNil)) (sRet (cLst (aCons (cV 2) (aNil)))))))
def g_words_of : List D → Cm D := dfn 1 5 c_words_of
theorem u_words_of {a0 : D} {s : Sto} {Q : D → Sto → Prop} {E : XP} {u : Lk2 Q E} (k : ws c_words_of [some a0, none, none, none, none] s (fun _ t => Q .non t) Q NE NE E) : wp (g_words_of [a0]) s Q E u := wp_dfn rfl k
def c_field_in : CS := sSeq (sIf (tE (cBin dNe (cV 1) (cK (.str "n")))) (sRet (cCall g_rest (aCons (cBin dShr (cV 0) (cUn (tabIx [("a", .int 24), ("b", .int 21), ("c", .int 18), ("n", .int 0)]) (cV 1))) (aCons (cK (.int 3)) (aNil))))) (sNil)) (sSeq (sIf (tE (cBin (dIn false) (cV 2) (cK (.tup [.str "more", .str "load", .str "store"])))) (sRet (cCall g_signed (aCons (cCall g_rest (aCons (cV 0) (aCons (cK (.int 18)) (aNil)))) (aCons (cK (.int 18)) (aNil))))) (sNil)) (sRet (cCall g_rest (aCons (cV 0) (aCons (cK (.int 18)) (aNil))))))
def g_field_in : List D → Cm D := dfn 3 3 c_field_in
theorem u_field_in {a0 a1 a2 : D} {s : Sto} {Q : D → Sto → Prop} {E : XP} {u : Lk2 Q E} (k : ws c_field_in [some a0, some a1, some a2] s (fun _ t => Q .non t) Q NE NE E) : wp (g_field_in [a0, a1, a2]) s Q E u := wp_dfn rfl k
def c_instruction_at : CS := sSeq (sIf (tOr' (tE (cBin dLt (cV 1) (cK (.int 0)))) (tE (cBin dGe (cV 1) (cCall bLen (aCons (cV 0) (aNil)))))) (sRet (cK .non)) (sNil)) (sSeq (sSet 2 (cBin dShr (cBin dIx (cV 0) (cV 1)) (cK (.int 27)))) (sSeq (sIf (tE (cBin dGe (cV 2) (cCall bLen (aCons (cK (.tup [.str "stop", .str "put", .str "add", .str "sub", .str "and", .str "or", .str "xor", .str "less", .str "left", .str "right", .str "more", .str "load", .str "store", .str "jump", .str "jumpif", .str "through", .str "fit", .str "aim", .str "gate"])) (aNil))))) (sRet (cK .non)) (sNil)) (sSeq (sSet 3 (cBin dIx (cK (.tup [.str "stop", .str "put", .str "add", .str "sub", .str "and", .str "or", .str "xor", .str "less", .str "left", .str "right", .str "more", .str "load", .str "store", .str "jump", .str "jumpif", .str "through", .str "fit", .str "aim", .str "gate"])) (cV 2))) (sSeq (sSet 4 (cBin dAdd (cTup (aCons (cV 3) (aNil))) (cTp (cLcA (iSeq (cCall g_fields_of (aCons (cV 3) (aNil)))) (.v 5) [5] (tYesD) (cCall g_field_in (aCons (cBin dIx (cV 0) (cV 1)) (aCons (cV 5) (aCons (cV 3) (aNil))))))))) (sSeq (sIf (tE (cBin dEq (cV 3) (cK (.str "put")))) (sSeq (sIf (tE (cBin dGe (cBin dAdd (cV 1) (cK (.int 1))) (cCall bLen (aCons (cV 0) (aNil))))) (sRet (cK .non)) (sNil)) (sSet 4 (cBin dAdd (cV 4) (cTup (aCons (cBin dIx (cV 0) (cBin dAdd (cV 1) (cK (.int 1)))) (aNil)))))) (sNil)) (sSeq (sIf (tE (cBin dNe (cBin dIx (cCall g_words_of (aCons (cV 4) (aNil))) (cK (.int 0))) (cBin dIx (cV 0) (cV 1)))) (sRet (cK .non)) (sNil)) (sRet (cV 4))))))))
def g_instruction_at : List D → Cm D := dfn 2 6 c_instruction_at
theorem u_instruction_at {a0 a1 : D} {s : Sto} {Q : D → Sto → Prop} {E : XP} {u : Lk2 Q E} (k : ws c_instruction_at [some a0, some a1, none, none, none, none] s (fun _ t => Q .non t) Q NE NE E) : wp (g_instruction_at [a0, a1]) s Q E u := wp_dfn rfl k
def c_length_of : CS := sSeq (sIf (tE (cBin dEq (cBin dIx (cV 0) (cK (.int 0))) (cK (.str "put")))) (sRet (cK (.int 2))) (sNil)) (sRet (cK (.int 1)))
def g_length_of : List D → Cm D := dfn 1 1 c_length_of
theorem u_length_of {a0 : D} {s : Sto} {Q : D → Sto → Prop} {E : XP} {u : Lk2 Q E} (k : ws c_length_of [some a0] s (fun _ t => Q .non t) Q NE NE E) : wp (g_length_of [a0]) s Q E u := wp_dfn rfl k
def c_law_alike_1 (g : List D → Cm D) : CS := sSeq (sIf (tE (cUn dIsN (cV 1))) (sRet (cUn dIsN (cV 0))) (sNil)) (sSeq (sIf (tE (cUn (dIsi "tuple") (cV 1))) (sSeq (sIf (tOr' (tNot' (tE (cUn (dIsi "tuple") (cV 0)))) (tE (cBin dNe (cCall bLen (aCons (cV 0) (aNil))) (cCall bLen (aCons (cV 1) (aNil)))))) (sRet (cK (.bl false))) (sNil)) (sRet (cAllA (cLcA (iRng (cCall bLen (aCons (cV 1) (aNil)))) (.v 2) [2] (tYesD) (cCall g (aCons (cBin dIx (cV 0) (cV 2)) (aCons (cBin dIx (cV 1) (cV 2)) (aNil)))))))) (sNil)) (sSeq (sIf (tE (cUn (dIsi "int") (cV 1))) (sRet (cAnd (cUn (dIsi "int") (cV 0)) (cAnd (cNot (cUn (dIsi "bool") (cV 0))) (cBin dEq (cV 0) (cV 1))))) (sNil)) (sRet (cAnd (cUn (dIsi "str") (cV 0)) (cBin dEq (cV 0) (cV 1))))))
def g_rlaw_alike_1 (n : Nat) : List D → Cm D := n.rec (dfn 2 3 fun _ => noC) (fun _ g => dfn 2 3 (c_law_alike_1 g))
def g_law_alike_1 : List D → Cm D := g_rlaw_alike_1 6
theorem u_law_alike_1 {n : Nat} {a0 a1 : D} {s : Sto} {Q : D → Sto → Prop} {E : XP} {u : Lk2 Q E} (k : ws (c_law_alike_1 (g_rlaw_alike_1 n)) [some a0, some a1, none] s (fun _ t => Q .non t) Q NE NE E) : wp (g_rlaw_alike_1 (n + 1) [a0, a1]) s Q E u := wp_dfn (c := c_law_alike_1 (g_rlaw_alike_1 n)) rfl k
def c_law_instruction : CS := sSeq (sSet 3 (cLst (aCons (cK (.str "stop")) (aCons (cK (.str "put")) (aCons (cK (.str "add")) (aCons (cK (.str "sub")) (aCons (cK (.str "and")) (aCons (cK (.str "or")) (aCons (cK (.str "xor")) (aCons (cK (.str "less")) (aCons (cK (.str "left")) (aCons (cK (.str "right")) (aCons (cK (.str "more")) (aCons (cK (.str "load")) (aCons (cK (.str "store")) (aCons (cK (.str "jump")) (aNil))))))))))))))))) (sSeq (sSet 4 (cBin dIx (cBin dAdd (cV 3) (cLst (aCons (cK (.str "jumpif")) (aCons (cK (.str "through")) (aCons (cK (.str "fit")) (aCons (cK (.str "aim")) (aCons (cK (.str "gate")) (aNil)))))))) (cCall g_law_draw (aCons (cV 0) (aCons (cK (.int 19)) (aNil)))))) (sSeq (sSet 5 (cCall g_law_draw (aCons (cV 0) (aCons (cV 1) (aNil))))) (sSeq (sSet 6 (cCall g_law_draw (aCons (cV 0) (aCons (cV 1) (aNil))))) (sSeq (sIf (tE (cBin dEq (cV 4) (cK (.str "stop")))) (sRet (cTup (aCons (cV 4) (aNil)))) (sNil)) (sSeq (sIf (tE (cBin dEq (cV 4) (cK (.str "put")))) (sRet (cTup (aCons (cV 4) (aCons (cV 5) (aCons (cPick (cChk (aCons (cCall g_law_draw (aCons (cV 0) (aCons (cK (.int 9)) (aNil)))) (aCons (cCall g_law_draw (aCons (cV 0) (aCons (cBin dPow (cK (.int 2)) (cK (.int 32))) (aNil)))) (aCons (cBin dSub (cBin dPow (cK (.int 2)) (cK (.int 32))) (cK (.int 1))) (aNil))))) (cCall g_law_draw (aCons (cV 0) (aCons (cK (.int 3)) (aNil))))) (aNil)))))) (sNil)) (sSeq (sIf (tE (cInA false (cV 4) (cChk (aCons (cK (.str "more")) (aCons (cK (.str "load")) (aCons (cK (.str "store")) (aNil))))))) (sSeq (sSet 7 (cBin dSub (cCall g_law_draw (aCons (cV 0) (aCons (cBin dPow (cK (.int 2)) (cK (.int 18))) (aNil)))) (cBin dPow (cK (.int 2)) (cK (.int 17))))) (sRet (cTup (aCons (cV 4) (aCons (cV 5) (aCons (cV 6) (aCons (cPick (cChk (aCons (cV 7) (aCons (cBin dSub (cBin dMod (cV 7) (cK (.int 9))) (cK (.int 4))) (aCons (cK (.int 0)) (aCons (cBin dSub (cBin dPow (cK (.int 2)) (cK (.int 17))) (cK (.int 1))) (aCons (cBin dSub (cK (.int 0)) (cBin dPow (cK (.int 2)) (cK (.int 17)))) (aNil))))))) (cCall g_law_draw (aCons (cV 0) (aCons (cK (.int 5)) (aNil))))) (aNil)))))))) (sNil)) (sSeq (sIf (tE (cBin dEq (cV 4) (cK (.str "through")))) (sRet (cTup (aCons (cV 4) (aCons (cV 6) (aNil))))) (sNil)) (sSeq (sIf (tE (cInA false (cV 4) (cChk (aCons (cK (.str "fit")) (aCons (cK (.str "aim")) (aNil)))))) (sRet (cTup (aCons (cV 4) (aCons (cV 5) (aCons (cV 6) (aNil)))))) (sNil)) (sSeq (sIf (tE (cInA false (cV 4) (cChk (aCons (cK (.str "jump")) (aCons (cK (.str "jumpif")) (aCons (cK (.str "gate")) (aNil))))))) (sSeq (sSet 7 (cCall g_law_draw (aCons (cV 0) (aCons (cV 2) (aNil))))) (sRet (cPick (cChk (aCons (cTup (aCons (cV 4) (aCons (cV 7) (aNil)))) (aCons (cTup (aCons (cV 4) (aCons (cV 5) (aCons (cV 7) (aNil))))) (aNil)))) (cCall bInt (aCons (cBin dEq (cV 4) (cK (.str "jumpif"))) (aNil)))))) (sNil)) (sRet (cTup (aCons (cV 4) (aCons (cV 5) (aCons (cV 6) (aCons (cCall g_law_draw (aCons (cV 0) (aCons (cV 1) (aNil)))) (aNil))))))))))))))))
def g_law_instruction : List D → Cm D := dfn 3 8 c_law_instruction
theorem u_law_instruction {a0 a1 a2 : D} {s : Sto} {Q : D → Sto → Prop} {E : XP} {u : Lk2 Q E} (k : ws c_law_instruction [some a0, some a1, some a2, none, none, none, none, none] s (fun _ t => Q .non t) Q NE NE E) : wp (g_law_instruction [a0, a1, a2]) s Q E u := wp_dfn rfl k
def c_law_words : CS := sSeq (sSet 1 (cLst (aCons (cK (.str "stop")) (aCons (cK (.str "put")) (aCons (cK (.str "add")) (aCons (cK (.str "sub")) (aCons (cK (.str "and")) (aCons (cK (.str "or")) (aCons (cK (.str "xor")) (aCons (cK (.str "less")) (aCons (cK (.str "left")) (aCons (cK (.str "right")) (aCons (cK (.str "more")) (aCons (cK (.str "load")) (aCons (cK (.str "store")) (aCons (cK (.str "jump")) (aNil))))))))))))))))) (sSeq (sSet 2 (cBin dIx (cV 0) (cK (.int 0)))) (sSeq (sSet 3 (cBin dMul (cBmL dIndexL (cBin dAdd (cV 1) (cLst (aCons (cK (.str "jumpif")) (aCons (cK (.str "through")) (aCons (cK (.str "fit")) (aCons (cK (.str "aim")) (aCons (cK (.str "gate")) (aNil)))))))) (aCons (cV 2) (aNil))) (cBin dPow (cK (.int 2)) (cK (.int 27))))) (sSeq (sIf (tE (cBin dEq (cV 2) (cK (.str "put")))) (sRet (cLst (aCons (cBin dAdd (cV 3) (cBin dMul (cBin dIx (cV 0) (cK (.int 1))) (cBin dPow (cK (.int 2)) (cK (.int 24))))) (aCons (cBin dIx (cV 0) (cK (.int 2))) (aNil))))) (sNil)) (sSeq (sIf (tE (cInA false (cV 2) (cChk (aCons (cK (.str "more")) (aCons (cK (.str "load")) (aCons (cK (.str "store")) (aNil))))))) (sSeq (sSet 3 (cBin dAdd (cBin dAdd (cV 3) (cBin dMul (cBin dIx (cV 0) (cK (.int 1))) (cBin dPow (cK (.int 2)) (cK (.int 24))))) (cBin dMul (cBin dIx (cV 0) (cK (.int 2))) (cBin dPow (cK (.int 2)) (cK (.int 21)))))) (sRet (cLst (aCons (cBin dAdd (cBin dAdd (cV 3) (cBin dIx (cV 0) (cK (.int 3)))) (cBin dMul (cBin dPow (cK (.int 2)) (cK (.int 18))) (cCall bInt (aCons (cBin dLt (cBin dIx (cV 0) (cK (.int 3))) (cK (.int 0))) (aNil))))) (aNil))))) (sNil)) (sSeq (sIf (tOr' (tE (cBin dEq (cV 2) (cK (.str "jump")))) (tE (cBin dEq (cV 2) (cK (.str "gate"))))) (sRet (cLst (aCons (cBin dAdd (cV 3) (cBin dIx (cV 0) (cK (.int 1)))) (aNil)))) (sNil)) (sSeq (sIf (tE (cBin dEq (cV 2) (cK (.str "jumpif")))) (sRet (cLst (aCons (cBin dAdd (cBin dAdd (cV 3) (cBin dMul (cBin dIx (cV 0) (cK (.int 1))) (cBin dPow (cK (.int 2)) (cK (.int 24))))) (cBin dIx (cV 0) (cK (.int 2)))) (aNil)))) (sNil)) (sSeq (sIf (tE (cBin dEq (cV 2) (cK (.str "through")))) (sRet (cLst (aCons (cBin dAdd (cV 3) (cBin dMul (cBin dIx (cV 0) (cK (.int 1))) (cBin dPow (cK (.int 2)) (cK (.int 21))))) (aNil)))) (sNil)) (sSeq (sFor (iZip (cSl (cV 0) (oSome (cK (.int 1))) (oNone)) (cLst (aCons (cBin dPow (cK (.int 2)) (cK (.int 24))) (aCons (cBin dPow (cK (.int 2)) (cK (.int 21))) (aCons (cBin dPow (cK (.int 2)) (cK (.int 18))) (aNil)))))) (.t [4, 5]) (sSet 3 (cBin dAdd (cV 3) (cBin dMul (cV 4) (cV 5))))) (sRet (cLst (aCons (cV 3) (aNil))))))))))))
def g_law_words : List D → Cm D := dfn 1 6 c_law_words
theorem u_law_words {a0 : D} {s : Sto} {Q : D → Sto → Prop} {E : XP} {u : Lk2 Q E} (k : ws c_law_words [some a0, none, none, none, none, none] s (fun _ t => Q .non t) Q NE NE E) : wp (g_law_words [a0]) s Q E u := wp_dfn rfl k
def c_in_room_1 : CS := sRet (cChain dLe dLt (cBin dIx2 (cV 0) (cK (.int 1))) (cV 1) (cBin dAdd (cBin dIx2 (cV 0) (cK (.int 1))) (cBin dShl (cK (.int 1)) (cBin dIx2 (cV 0) (cK (.int 0))))))
def g_in_room_1 : List D → Cm D := dfn 2 2 c_in_room_1
theorem u_in_room_1 {a0 a1 : D} {s : Sto} {Q : D → Sto → Prop} {E : XP} {u : Lk2 Q E} (k : ws c_in_room_1 [some a0, some a1] s (fun _ t => Q .non t) Q NE NE E) : wp (g_in_room_1 [a0, a1]) s Q E u := wp_dfn rfl k
def c_of_two : CS := sSeq (sIf (tE (cBin dEq (cV 0) (cK (.str "add")))) (sRet (cBin dAnd (cBin dAdd (cV 1) (cV 2)) (cK (.int 4294967295)))) (sNil)) (sSeq (sIf (tE (cBin dEq (cV 0) (cK (.str "sub")))) (sRet (cBin dAnd (cBin dSub (cV 1) (cV 2)) (cK (.int 4294967295)))) (sNil)) (sSeq (sIf (tE (cBin dEq (cV 0) (cK (.str "and")))) (sRet (cBin dAnd (cV 1) (cV 2))) (sNil)) (sSeq (sIf (tE (cBin dEq (cV 0) (cK (.str "or")))) (sRet (cBin dOr (cV 1) (cV 2))) (sNil)) (sSeq (sIf (tE (cBin dEq (cV 0) (cK (.str "xor")))) (sRet (cBin dXor (cV 1) (cV 2))) (sNil)) (sSeq (sIf (tE (cBin dEq (cV 0) (cK (.str "less")))) (sRet (cCall bInt (aCons (cBin dLt (cV 1) (cV 2)) (aNil)))) (sNil)) (sSeq (sIf (tE (cBin dEq (cV 0) (cK (.str "left")))) (sRet (cBin dAnd (cBin dShl (cV 1) (cBin dAnd (cV 2) (cK (.int 31)))) (cK (.int 4294967295)))) (sNil)) (sRet (cBin dShr (cV 1) (cBin dAnd (cV 2) (cK (.int 31)))))))))))
def g_of_two : List D → Cm D := dfn 3 3 c_of_two
theorem u_of_two {a0 a1 a2 : D} {s : Sto} {Q : D → Sto → Prop} {E : XP} {u : Lk2 Q E} (k : ws c_of_two [some a0, some a1, some a2] s (fun _ t => Q .non t) Q NE NE E) : wp (g_of_two [a0, a1, a2]) s Q E u := wp_dfn rfl k
def c_reckoned_1 : CS := sSeq (sSet 2 (cBin dIx2 (cV 0) (cK (.int 0)))) (sSeq (sIf (tE (cBin dEq (cV 2) (cK (.str "put")))) (sRet (cBin dIx2 (cV 0) (cK (.int 2)))) (sNil)) (sSeq (sIf (tE (cBin dEq (cV 2) (cK (.str "more")))) (sRet (cBin dAnd (cBin dAdd (cBin dIx2 (cV 1) (cBin dIx2 (cV 0) (cK (.int 2)))) (cBin dIx2 (cV 0) (cK (.int 3)))) (cK (.int 4294967295)))) (sNil)) (sSeq (sIf (tE (cBin (dIn false) (cV 2) (cTup (aCons (cK (.str "add")) (aCons (cK (.str "sub")) (aCons (cK (.str "and")) (aCons (cK (.str "or")) (aCons (cK (.str "xor")) (aCons (cK (.str "less")) (aCons (cK (.str "left")) (aCons (cK (.str "right")) (aNil)))))))))))) (sRet (cCall g_of_two (aCons (cV 2) (aCons (cBin dIx2 (cV 1) (cBin dIx2 (cV 0) (cK (.int 2)))) (aCons (cBin dIx2 (cV 1) (cBin dIx2 (cV 0) (cK (.int 3)))) (aNil)))))) (sNil)) (sRet (cK .non)))))
def g_reckoned_1 : List D → Cm D := dfn 2 3 c_reckoned_1
theorem u_reckoned_1 {a0 a1 : D} {s : Sto} {Q : D → Sto → Prop} {E : XP} {u : Lk2 Q E} (k : ws c_reckoned_1 [some a0, some a1, none] s (fun _ t => Q .non t) Q NE NE E) : wp (g_reckoned_1 [a0, a1]) s Q E u := wp_dfn rfl k
def c_masked_1 : CS := sSeq (sSet 3 (cBin dIx2 (cV 2) (cBin dIx2 (cV 1) (cK (.int 2))))) (sSeq (sIf (tE (cBin dEq (cBin dIx2 (cV 1) (cK (.int 0))) (cK (.str "fit")))) (sRet (cBin dAdd (cBin dIx2 (cV 0) (cK (.int 1))) (cBin dAnd (cV 3) (cBin dSub (cBin dShl (cK (.int 1)) (cBin dIx2 (cV 0) (cK (.int 0)))) (cK (.int 1)))))) (sNil)) (sRet (cBin dMul (cBin dAnd (cV 3) (cBin dSub (cBin dShl (cK (.int 1)) (cBin dIx2 (cV 0) (cK (.int 2)))) (cK (.int 1)))) (cBin dShl (cK (.int 8)) (cBin dIx2 (cV 0) (cK (.int 3)))))))
def g_masked_1 : List D → Cm D := dfn 3 4 c_masked_1
theorem u_masked_1 {a0 a1 a2 : D} {s : Sto} {Q : D → Sto → Prop} {E : XP} {u : Lk2 Q E} (k : ws c_masked_1 [some a0, some a1, some a2, none] s (fun _ t => Q .non t) Q NE NE E) : wp (g_masked_1 [a0, a1, a2]) s Q E u := wp_dfn rfl k
def c_Machine_init : CS := sSeq (sFld "Machine" "plan" (cV 0) (cV 1)) (sSeq (sFld "Machine" "code" (cV 0) (cCall bList (aCons (cV 2) (aNil)))) (sSeq (sFld "Machine" "place" (cV 0) (cBin dIx2 (cV 3) (cK (.int 0)))) (sSeq (sFld "Machine" "boxes" (cV 0) (cCall bList (aCons (cBin dIx2 (cV 3) (cK (.int 1))) (aNil)))) (sSeq (sFld "Machine" "memory" (cV 0) (cCall bDict (aCons (cBin dIx2 (cV 3) (cK (.int 2))) (aNil)))) (sSeq (sFld "Machine" "replies" (cV 0) (cCall bList (aCons (cV 4) (aNil)))) (sFld "Machine" "rows" (cV 0) (cLst (aNil))))))))
def g_Machine_init : List D → Cm D := dfn 5 5 c_Machine_init
theorem u_Machine_init {a0 a1 a2 a3 a4 : D} {s : Sto} {Q : D → Sto → Prop} {E : XP} {u : Lk2 Q E} (k : ws c_Machine_init [some a0, some a1, some a2, some a3, some a4] s (fun _ t => Q .non t) Q NE NE E) : wp (g_Machine_init [a0, a1, a2, a3, a4]) s Q E u := wp_dfn rfl k
def c_Machine_stand : CS := sRet (cTup (aCons (cUn (dFld "Machine" "place") (cV 0)) (aCons (cCall bTuple (aCons (cUn (dFld "Machine" "boxes") (cV 0)) (aNil))) (aCons (cCall bDict (aCons (cUn (dFld "Machine" "memory") (cV 0)) (aNil))) (aNil)))))
def g_Machine_stand : List D → Cm D := dfn 1 1 c_Machine_stand
theorem u_Machine_stand {a0 : D} {s : Sto} {Q : D → Sto → Prop} {E : XP} {u : Lk2 Q E} (k : ws c_Machine_stand [some a0] s (fun _ t => Q .non t) Q NE NE E) : wp (g_Machine_stand [a0]) s Q E u := wp_dfn rfl k
def c_Machine_reach : CS := sSeq (sUnp2 [3, 4, 5, 6] (cV 1)) (sSeq (sSet 2 (cBin dAnd (cBin dAdd (cBin dIx2 (cUn (dFld "Machine" "boxes") (cV 0)) (cV 5)) (cV 6)) (cK (.int 4294967295)))) (sSeq (sIf (tNot' (tE (cCall g_in_room_1 (aCons (cUn (dFld "Machine" "plan") (cV 0)) (aCons (cV 2) (aNil)))))) (sRet (cTup (aCons (cK (.str "beyond")) (aCons (cV 2) (aNil))))) (sNil)) (sSeq (sIf (tE (cBin dEq (cV 3) (cK (.str "load")))) (sPut dPut2 (cUn (dFld "Machine" "boxes") (cV 0)) (cV 4) (cGetD (cUn (dFld "Machine" "memory") (cV 0)) (cV 2) (cK (.int 0)))) (sPut dPut2 (cUn (dFld "Machine" "memory") (cV 0)) (cV 2) (cBin dIx2 (cUn (dFld "Machine" "boxes") (cV 0)) (cV 4)))) (sRet (cK .non)))))
def g_Machine_reach : List D → Cm D := dfn 2 7 c_Machine_reach
theorem u_Machine_reach {a0 a1 : D} {s : Sto} {Q : D → Sto → Prop} {E : XP} {u : Lk2 Q E} (k : ws c_Machine_reach [some a0, some a1, none, none, none, none, none] s (fun _ t => Q .non t) Q NE NE E) : wp (g_Machine_reach [a0, a1]) s Q E u := wp_dfn rfl k
def c_Machine_gate : CS := sSeq (sIf (tE (cBin dGe (cV 1) (cBin dIx2 (cUn (dFld "Machine" "plan") (cV 0)) (cK (.int 4))))) (sRet (cTup (aCons (cK (.str "lost")) (aNil)))) (sNil)) (sSeq (sDrop (cBmL dApp (cUn (dFld "Machine" "rows") (cV 0)) (aCons (cTup (aCons (cV 1) (aCons (cCall bTuple (aCons (cUn (dFld "Machine" "boxes") (cV 0)) (aNil))) (aCons (cCall bDict (aCons (cUn (dFld "Machine" "memory") (cV 0)) (aNil))) (aNil))))) (aNil)))) (sSeq (sIf (tE (cBin dGt (cCall bLen (aCons (cUn (dFld "Machine" "rows") (cV 0)) (aNil))) (cCall bLen (aCons (cUn (dFld "Machine" "replies") (cV 0)) (aNil))))) (sRet (cTup (aCons (cK (.str "asks")) (aCons (cV 1) (aNil))))) (sNil)) (sSeq (sUnp2 [2, 3] (cBin dIx2 (cUn (dFld "Machine" "replies") (cV 0)) (cBin dSub (cCall bLen (aCons (cUn (dFld "Machine" "rows") (cV 0)) (aNil))) (cK (.int 1))))) (sSeq (sFld "Machine" "boxes" (cV 0) (cBin dAdd (cCall bList (aCons (cV 2) (aNil))) (cLst (aCons (cBin dIx2 (cUn (dFld "Machine" "boxes") (cV 0)) (cK (.int 7))) (aNil))))) (sSeq (sDrop (cUpd (cUn (dFld "Machine" "memory") (cV 0)) (cV 3))) (sRet (cK .non)))))))
def g_Machine_gate : List D → Cm D := dfn 2 4 c_Machine_gate
theorem u_Machine_gate {a0 a1 : D} {s : Sto} {Q : D → Sto → Prop} {E : XP} {u : Lk2 Q E} (k : ws c_Machine_gate [some a0, some a1, none, none] s (fun _ t => Q .non t) Q NE NE E) : wp (g_Machine_gate [a0, a1]) s Q E u := wp_dfn rfl k
def c_Machine_onward : CS := sSeq (sSet 2 (cBin dIx2 (cV 1) (cK (.int 0)))) (sSeq (sIf (tOr' (tE (cBin dEq (cV 2) (cK (.str "jump")))) (tAnd' (tE (cBin dEq (cV 2) (cK (.str "jumpif")))) (tE (cBin dNe (cBin dIx2 (cUn (dFld "Machine" "boxes") (cV 0)) (cBin dIx2 (cV 1) (cK (.int 1)))) (cK (.int 0)))))) (sRet (cBin dIx2 (cV 1) (cUn dNeg (cK (.int 1))))) (sNil)) (sSeq (sIf (tE (cBin dEq (cV 2) (cK (.str "through")))) (sRet (cBin dIx2 (cUn (dFld "Machine" "boxes") (cV 0)) (cBin dIx2 (cV 1) (cK (.int 1))))) (sNil)) (sRet (cBin dAdd (cUn (dFld "Machine" "place") (cV 0)) (cCall g_length_of (aCons (cV 1) (aNil)))))))
def g_Machine_onward : List D → Cm D := dfn 2 3 c_Machine_onward
theorem u_Machine_onward {a0 a1 : D} {s : Sto} {Q : D → Sto → Prop} {E : XP} {u : Lk2 Q E} (k : ws c_Machine_onward [some a0, some a1, none] s (fun _ t => Q .non t) Q NE NE E) : wp (g_Machine_onward [a0, a1]) s Q E u := wp_dfn rfl k
def c_Machine_done : CS := sSeq (sSet 2 (cBin dIx2 (cV 1) (cK (.int 0)))) (sSeq (sSet 3 (cK .non)) (sSeq (sIf (tE (cBin dEq (cV 2) (cK (.str "stop")))) (sRet (cTup (aCons (cK (.str "stopped")) (aNil)))) (sNil)) (sSeq (sIf (tOr' (tE (cBin dEq (cV 2) (cK (.str "load")))) (tE (cBin dEq (cV 2) (cK (.str "store"))))) (sSet 3 (cMth "Machine" "reach" g_Machine_reach (cV 0) (aCons (cV 1) (aNil)))) (sIf (tE (cBin dEq (cV 2) (cK (.str "gate")))) (sSet 3 (cMth "Machine" "gate" g_Machine_gate (cV 0) (aCons (cBin dIx2 (cV 1) (cK (.int 1))) (aNil)))) (sIf (tOr' (tE (cBin dEq (cV 2) (cK (.str "fit")))) (tE (cBin dEq (cV 2) (cK (.str "aim"))))) (sPut dPut2 (cUn (dFld "Machine" "boxes") (cV 0)) (cBin dIx2 (cV 1) (cK (.int 1))) (cCall g_masked_1 (aCons (cUn (dFld "Machine" "plan") (cV 0)) (aCons (cV 1) (aCons (cUn (dFld "Machine" "boxes") (cV 0)) (aNil)))))) (sIf (tE (cBin (dIn true) (cV 2) (cTup (aCons (cK (.str "jump")) (aCons (cK (.str "jumpif")) (aCons (cK (.str "through")) (aNil))))))) (sPut dPut2 (cUn (dFld "Machine" "boxes") (cV 0)) (cBin dIx2 (cV 1) (cK (.int 1))) (cCall g_reckoned_1 (aCons (cV 1) (aCons (cUn (dFld "Machine" "boxes") (cV 0)) (aNil))))) (sNil))))) (sSeq (sIf (tE (cUn dIsN (cV 3))) (sFld "Machine" "place" (cV 0) (cMth "Machine" "onward" g_Machine_onward (cV 0) (aCons (cV 1) (aNil)))) (sNil)) (sRet (cV 3))))))
def g_Machine_done : List D → Cm D := dfn 2 4 c_Machine_done
theorem u_Machine_done {a0 a1 : D} {s : Sto} {Q : D → Sto → Prop} {E : XP} {u : Lk2 Q E} (k : ws c_Machine_done [some a0, some a1, none, none] s (fun _ t => Q .non t) Q NE NE E) : wp (g_Machine_done [a0, a1]) s Q E u := wp_dfn rfl k
def c_run : CS := sSeq (sSet 5 (cMake "Machine" g_Machine_init (aCons (cV 0) (aCons (cV 1) (aCons (cV 2) (aCons (cV 3) (aNil))))))) (sSeq (sSet 6 (cK (.int 0))) (sSeq (sSet 7 (cK .non)) (sSeq (sWhile (tE (cUn dIsN (cV 7))) (sSeq (sSet 8 (cCall g_instruction_at (aCons (cUn (dFld "Machine" "code") (cV 5)) (aCons (cUn (dFld "Machine" "place") (cV 5)) (aNil))))) (sIf (tE (cUn dIsN (cV 8))) (sSet 7 (cTup (aCons (cK (.str "lost")) (aNil)))) (sIf (tE (cBin dEq2 (cV 6) (cV 4))) (sSet 7 (cTup (aCons (cK (.str "spent")) (aNil)))) (sSeq (sAug 6 iAdd (cK (.int 1))) (sSet 7 (cMth "Machine" "done" g_Machine_done (cV 5) (aCons (cV 8) (aNil))))))))) (sRet (cTup (aCons (cV 7) (aCons (cMth "Machine" "stand" g_Machine_stand (cV 5) aNil) (aCons (cUn (dFld "Machine" "rows") (cV 5)) (aCons (cV 6) (aNil))))))))))
def g_run : List D → Cm D := dfn 5 9 c_run
theorem u_run {a0 a1 a2 a3 a4 : D} {s : Sto} {Q : D → Sto → Prop} {E : XP} {u : Lk2 Q E} (k : ws c_run [some a0, some a1, some a2, some a3, some a4, none, none, none, none] s (fun _ t => Q .non t) Q NE NE E) : wp (g_run [a0, a1, a2, a3, a4]) s Q E u := wp_dfn rfl k
def c_law_draw_3 : CS := sSeq (sUnp2 [3, 4] (cSl (cV 0) (oNone) (oSome (cK (.int 2))))) (sSeq (sPut dPut2 (cV 0) (cK (.int 1)) (cBin dAdd (cV 4) (cK (.int 1)))) (sSeq (sIf (tAnd' (tE (cBin dLt (cBin dDiv (cV 4) (cK (.int 30))) (cCall bLen (aCons (cV 3) (aNil))))) (tE (cBin dGe (cCall bAbs (aCons (cBin dIx2 (cV 3) (cBin dDiv (cV 4) (cK (.int 30)))) (aNil))) (cBin dPow (cK (.int 10)) (cK (.int 18)))))) (sSeq (sIf (tE (cBin dEq (cBin dMod (cV 4) (cK (.int 30))) (cK (.int 0)))) (sPut dPut2 (cV 0) (cK (.int 2)) (cCall bAbs (aCons (cBin dIx2 (cV 3) (cBin dDiv (cV 4) (cK (.int 30)))) (aNil)))) (sNil)) (sIf (tE (cBin dGt (cBin dIx2 (cV 0) (cK (.int 2))) (cK (.int 0)))) (sSeq (sSet 5 (cBin dMod (cBin dIx2 (cV 0) (cK (.int 2))) (cV 1))) (sSeq (sPut dPut2 (cV 0) (cK (.int 2)) (cBin dDiv (cBin dIx2 (cV 0) (cK (.int 2))) (cV 1))) (sRet (cV 5)))) (sNil))) (sNil)) (sSeq (sSet 2 (cBin dAdd (cBin dMul (cV 4) (cK (.int 7919))) (cK (.int 5)))) (sSeq (sIf (tE (cBin dGt (cCall bLen (aCons (cV 3) (aNil))) (cK (.int 0)))) (sSet 2 (cBin dAdd (cV 2) (cBin dMul (cBin dMod (cBin dIx2 (cV 3) (cBin dMod (cBin dMul (cV 4) (cK (.int 7))) (cCall bLen (aCons (cV 3) (aNil))))) (cK (.int 2147483629))) (cBin dAdd (cK (.int 48271)) (cV 4))))) (sNil)) (sSeq (sSet 2 (cBin dMod (cBin dMul (cBin dMod (cV 2) (cK (.int 2147483629))) (cBin dAdd (cV 4) (cK (.int 3)))) (cK (.int 2147483629)))) (sSeq (sSet 2 (cBin dMod (cBin dMul (cV 2) (cV 2)) (cK (.int 2147483587)))) (sRet (cBin dMod (cBin dMul (cBin dMod (cBin dMul (cV 2) (cV 2)) (cK (.int 1999999973))) (cK (.int 1000000007))) (cV 1)))))))))
def g_law_draw_3 : List D → Cm D := dfn 2 6 c_law_draw_3
theorem u_law_draw_3 {a0 a1 : D} {s : Sto} {Q : D → Sto → Prop} {E : XP} {u : Lk2 Q E} (k : ws c_law_draw_3 [some a0, some a1, none, none, none, none] s (fun _ t => Q .non t) Q NE NE E) : wp (g_law_draw_3 [a0, a1]) s Q E u := wp_dfn rfl k
def c_law_sorts : CS := sSeq (sSet 0 (cLst (aCons (cK (.str "stop")) (aCons (cK (.str "put")) (aCons (cK (.str "add")) (aCons (cK (.str "sub")) (aCons (cK (.str "and")) (aCons (cK (.str "or")) (aCons (cK (.str "xor")) (aCons (cK (.str "less")) (aCons (cK (.str "left")) (aCons (cK (.str "right")) (aCons (cK (.str "more")) (aCons (cK (.str "load")) (aCons (cK (.str "store")) (aCons (cK (.str "jump")) (aNil))))))))))))))))) (sRet (cBin dAdd (cV 0) (cLst (aCons (cK (.str "jumpif")) (aCons (cK (.str "through")) (aCons (cK (.str "fit")) (aCons (cK (.str "aim")) (aCons (cK (.str "gate")) (aNil)))))))))
def g_law_sorts : List D → Cm D := dfn 0 1 c_law_sorts
theorem u_law_sorts {s : Sto} {Q : D → Sto → Prop} {E : XP} {u : Lk2 Q E} (k : ws c_law_sorts [none] s (fun _ t => Q .non t) Q NE NE E) : wp (g_law_sorts []) s Q E u := wp_dfn rfl k
def c_law_words_2 : CS := sSeq (sSet 1 (cBmL dIndexL (cCall g_law_sorts aNil) (aCons (cBin dIx2 (cV 0) (cK (.int 0))) (aNil)))) (sSeq (sSet 2 (cBin dMul (cV 1) (cBin dPow (cK (.int 2)) (cK (.int 27))))) (sSeq (sIf (tE (cBin dEq (cV 1) (cK (.int 1)))) (sRet (cLst (aCons (cBin dAdd (cV 2) (cBin dMul (cBin dIx2 (cV 0) (cK (.int 1))) (cBin dPow (cK (.int 2)) (cK (.int 24))))) (aCons (cBin dIx2 (cV 0) (cK (.int 2))) (aNil))))) (sNil)) (sSeq (sIf (tE (cBin (dIn false) (cV 1) (cTup (aCons (cK (.int 13)) (aCons (cK (.int 18)) (aNil)))))) (sRet (cLst (aCons (cBin dAdd (cV 2) (cBin dIx2 (cV 0) (cK (.int 1)))) (aNil)))) (sNil)) (sSeq (sIf (tE (cBin dEq (cV 1) (cK (.int 14)))) (sRet (cLst (aCons (cBin dAdd (cBin dAdd (cV 2) (cBin dMul (cBin dIx2 (cV 0) (cK (.int 1))) (cBin dPow (cK (.int 2)) (cK (.int 24))))) (cBin dIx2 (cV 0) (cK (.int 2)))) (aNil)))) (sNil)) (sSeq (sIf (tE (cBin dEq (cV 1) (cK (.int 15)))) (sRet (cLst (aCons (cBin dAdd (cV 2) (cBin dMul (cBin dIx2 (cV 0) (cK (.int 1))) (cBin dPow (cK (.int 2)) (cK (.int 21))))) (aNil)))) (sNil)) (sSeq (sIf (tE (cBin dEq (cV 1) (cK (.int 0)))) (sRet (cLst (aCons (cV 2) (aNil)))) (sNil)) (sSeq (sSet 2 (cBin dAdd (cBin dAdd (cV 2) (cBin dMul (cBin dIx2 (cV 0) (cK (.int 1))) (cBin dPow (cK (.int 2)) (cK (.int 24))))) (cBin dMul (cBin dIx2 (cV 0) (cK (.int 2))) (cBin dPow (cK (.int 2)) (cK (.int 21)))))) (sSeq (sIf (tE (cBin (dIn false) (cV 1) (cTup (aCons (cK (.int 10)) (aCons (cK (.int 11)) (aCons (cK (.int 12)) (aNil))))))) (sRet (cLst (aCons (cBin dAdd (cV 2) (cBin dMod (cBin dIx2 (cV 0) (cK (.int 3))) (cBin dPow (cK (.int 2)) (cK (.int 18))))) (aNil)))) (sNil)) (sSeq (sIf (tE (cBin (dIn false) (cV 1) (cTup (aCons (cK (.int 16)) (aCons (cK (.int 17)) (aNil)))))) (sRet (cLst (aCons (cV 2) (aNil)))) (sNil)) (sRet (cLst (aCons (cBin dAdd (cV 2) (cBin dMul (cBin dIx2 (cV 0) (cK (.int 3))) (cBin dPow (cK (.int 2)) (cK (.int 18))))) (aNil)))))))))))))
def g_law_words_2 : List D → Cm D := dfn 1 3 c_law_words_2
theorem u_law_words_2 {a0 : D} {s : Sto} {Q : D → Sto → Prop} {E : XP} {u : Lk2 Q E} (k : ws c_law_words_2 [some a0, none, none] s (fun _ t => Q .non t) Q NE NE E) : wp (g_law_words_2 [a0]) s Q E u := wp_dfn rfl k
def c_law_read_2 : CS := sSeq (sIf (tOr' (tNot' (tE (cChain dLe dLt (cK (.int 0)) (cV 1) (cCall bLen (aCons (cV 0) (aNil)))))) (tE (cBin dGt (cBin dDiv (cBin dIx2 (cV 0) (cV 1)) (cBin dPow (cK (.int 2)) (cK (.int 27)))) (cK (.int 18))))) (sRet (cK .non)) (sNil)) (sSeq (sSet 2 (cBin dIx2 (cV 0) (cV 1))) (sSeq (sSet 3 (cBin dDiv (cV 2) (cBin dPow (cK (.int 2)) (cK (.int 27))))) (sSeq (sSet 4 (cBin dIx2 (cCall g_law_sorts aNil) (cV 3))) (sSeq (sUnp2 [6, 7, 8, 9] (cTup (aCons (cBin dMod (cBin dDiv (cV 2) (cBin dPow (cK (.int 2)) (cK (.int 24)))) (cK (.int 8))) (aCons (cBin dMod (cBin dDiv (cV 2) (cBin dPow (cK (.int 2)) (cK (.int 21)))) (cK (.int 8))) (aCons (cBin dMod (cBin dDiv (cV 2) (cBin dPow (cK (.int 2)) (cK (.int 18)))) (cK (.int 8))) (aCons (cBin dMod (cV 2) (cBin dPow (cK (.int 2)) (cK (.int 18)))) (aNil))))))) (sSeq (sSet 5 (cTup (aCons (cV 4) (aCons (cV 6) (aCons (cV 7) (aCons (cV 8) (aNil))))))) (sSeq (sIf (tE (cBin (dIn false) (cV 3) (cTup (aCons (cK (.int 10)) (aCons (cK (.int 11)) (aCons (cK (.int 12)) (aNil))))))) (sSet 5 (cTup (aCons (cV 4) (aCons (cV 6) (aCons (cV 7) (aCons (cPick (cChk (aCons (cV 9) (aCons (cBin dSub (cV 9) (cBin dPow (cK (.int 2)) (cK (.int 18)))) (aNil)))) (cCall bInt (aCons (cBin dGe (cV 9) (cBin dPow (cK (.int 2)) (cK (.int 17)))) (aNil)))) (aNil))))))) (sNil)) (sSeq (sIf (tE (cBin (dIn false) (cV 3) (cTup (aCons (cK (.int 13)) (aCons (cK (.int 18)) (aNil)))))) (sSet 5 (cTup (aCons (cV 4) (aCons (cV 9) (aNil))))) (sNil)) (sSeq (sIf (tE (cBin dEq (cV 3) (cK (.int 14)))) (sSet 5 (cTup (aCons (cV 4) (aCons (cV 6) (aCons (cV 9) (aNil)))))) (sNil)) (sSeq (sIf (tE (cBin dEq (cV 3) (cK (.int 15)))) (sSet 5 (cTup (aCons (cV 4) (aCons (cV 7) (aNil))))) (sNil)) (sSeq (sIf (tE (cBin (dIn false) (cV 3) (cTup (aCons (cK (.int 16)) (aCons (cK (.int 17)) (aNil)))))) (sSet 5 (cTup (aCons (cV 4) (aCons (cV 6) (aCons (cV 7) (aNil)))))) (sNil)) (sSeq (sIf (tE (cBin dEq (cV 3) (cK (.int 0)))) (sSet 5 (cTup (aCons (cV 4) (aNil)))) (sNil)) (sSeq (sIf (tE (cBin dEq (cV 3) (cK (.int 1)))) (sSeq (sIf (tE (cBin dEq2 (cBin dAdd (cV 1) (cK (.int 1))) (cCall bLen (aCons (cV 0) (aNil))))) (sRet (cK .non)) (sNil)) (sSet 5 (cTup (aCons (cV 4) (aCons (cV 6) (aCons (cBin dIx2 (cV 0) (cBin dAdd (cV 1) (cK (.int 1)))) (aNil))))))) (sNil)) (sSeq (sIf (tE (cBin dNe2 (cBin dIx2 (cCall g_law_words_2 (aCons (cV 5) (aNil))) (cK (.int 0))) (cV 2))) (sRet (cK .non)) (sNil)) (sRet (cV 5)))))))))))))))
def g_law_read_2 : List D → Cm D := dfn 2 10 c_law_read_2
theorem u_law_read_2 {a0 a1 : D} {s : Sto} {Q : D → Sto → Prop} {E : XP} {u : Lk2 Q E} (k : ws c_law_read_2 [some a0, some a1, none, none, none, none, none, none, none, none] s (fun _ t => Q .non t) Q NE NE E) : wp (g_law_read_2 [a0, a1]) s Q E u := wp_dfn rfl k
def c_law_plan_3 : CS := sSeq (sSet 1 (cPick (cChk (aCons (cCall g_law_draw_3 (aCons (cV 0) (aCons (cK (.int 5)) (aNil)))) (aCons (cCall g_law_draw_3 (aCons (cV 0) (aCons (cK (.int 21)) (aNil)))) (aNil)))) (cCall g_law_draw_3 (aCons (cV 0) (aCons (cK (.int 2)) (aNil)))))) (sSeq (sSet 2 (cBin dMul (cPick (cChk (aCons (cK (.int 0)) (aCons (cBin dSub (cBin dShl (cK (.int 1)) (cBin dSub (cK (.int 32)) (cV 1))) (cK (.int 1))) (aCons (cCall g_law_draw_3 (aCons (cV 0) (aCons (cBin dShl (cK (.int 1)) (cBin dSub (cK (.int 32)) (cV 1))) (aNil)))) (aNil))))) (cCall g_law_draw_3 (aCons (cV 0) (aCons (cK (.int 3)) (aNil))))) (cBin dShl (cK (.int 1)) (cV 1)))) (sSeq (sSet 3 (cCall g_law_draw_3 (aCons (cV 0) (aCons (cK (.int 8)) (aNil))))) (sRet (cTup (aCons (cV 1) (aCons (cV 2) (aCons (cV 3) (aCons (cCall g_law_draw_3 (aCons (cV 0) (aCons (cBin dSub (cK (.int 8)) (cV 3)) (aNil)))) (aCons (cCall g_law_draw_3 (aCons (cV 0) (aCons (cK (.int 17)) (aNil)))) (aNil))))))))))
def g_law_plan_3 : List D → Cm D := dfn 1 4 c_law_plan_3
theorem u_law_plan_3 {a0 : D} {s : Sto} {Q : D → Sto → Prop} {E : XP} {u : Lk2 Q E} (k : ws c_law_plan_3 [some a0, none, none, none] s (fun _ t => Q .non t) Q NE NE E) : wp (g_law_plan_3 [a0]) s Q E u := wp_dfn rfl k
def c_law_value_4 : CS := sSeq (sSet 2 (cCall g_law_draw_3 (aCons (cV 0) (aCons (cK (.int 6)) (aNil))))) (sSeq (sIf (tE (cBin dEq (cV 2) (cK (.int 0)))) (sRet (cCall g_law_draw_3 (aCons (cV 0) (aCons (cK (.int 48)) (aNil))))) (sNil)) (sSeq (sIf (tE (cBin dEq (cV 2) (cK (.int 5)))) (sRet (cBin dMod (cBin dSub (cBin dAdd (cBin dAdd (cBin dIx2 (cV 1) (cK (.int 1))) (cBin dShl (cK (.int 1)) (cBin dIx2 (cV 1) (cK (.int 0))))) (cCall g_law_draw_3 (aCons (cV 0) (aCons (cK (.int 5)) (aNil))))) (cK (.int 3))) (cBin dPow (cK (.int 2)) (cK (.int 32))))) (sNil)) (sSeq (sIf (tE (cBin dEq (cV 2) (cK (.int 1)))) (sRet (cBin dAdd (cBin dIx2 (cV 1) (cK (.int 1))) (cCall g_law_draw_3 (aCons (cV 0) (aCons (cBin dShl (cK (.int 1)) (cBin dIx2 (cV 1) (cK (.int 0)))) (aNil)))))) (sNil)) (sSeq (sIf (tE (cBin dEq (cV 2) (cK (.int 2)))) (sRet (cBin dSub (cBin dSub (cBin dPow (cK (.int 2)) (cK (.int 32))) (cK (.int 1))) (cCall g_law_draw_3 (aCons (cV 0) (aCons (cK (.int 8)) (aNil)))))) (sNil)) (sSeq (sIf (tE (cBin dEq (cV 2) (cK (.int 3)))) (sRet (cBin dMod (cBin dSub (cBin dAdd (cBin dIx2 (cV 1) (cK (.int 1))) (cCall g_law_draw_3 (aCons (cV 0) (aCons (cK (.int 17)) (aNil))))) (cK (.int 8))) (cBin dPow (cK (.int 2)) (cK (.int 32))))) (sNil)) (sRet (cCall g_law_draw_3 (aCons (cV 0) (aCons (cBin dPow (cK (.int 2)) (cK (.int 32))) (aNil))))))))))
def g_law_value_4 : List D → Cm D := dfn 2 3 c_law_value_4
theorem u_law_value_4 {a0 a1 : D} {s : Sto} {Q : D → Sto → Prop} {E : XP} {u : Lk2 Q E} (k : ws c_law_value_4 [some a0, some a1, none] s (fun _ t => Q .non t) Q NE NE E) : wp (g_law_value_4 [a0, a1]) s Q E u := wp_dfn rfl k
def c_law_boxes_2 : CS := sRet (cTp (cLcA (iRng (cV 2)) (.v 3) [3] (tYesD) (cCall g_law_value_4 (aCons (cV 0) (aCons (cV 1) (aNil))))))
def g_law_boxes_2 : List D → Cm D := dfn 3 4 c_law_boxes_2
theorem u_law_boxes_2 {a0 a1 a2 : D} {s : Sto} {Q : D → Sto → Prop} {E : XP} {u : Lk2 Q E} (k : ws c_law_boxes_2 [some a0, some a1, some a2, none] s (fun _ t => Q .non t) Q NE NE E) : wp (g_law_boxes_2 [a0, a1, a2]) s Q E u := wp_dfn rfl k
def c_law_memory : CS := sSeq (sSet 3 (cNewD)) (sSeq (sFor (iRng (cCall g_law_draw_3 (aCons (cV 0) (aCons (cK (.int 7)) (aNil))))) (.v 4) (sSeq (sSet 5 (cBin dAdd (cBin dIx2 (cV 1) (cK (.int 1))) (cCall g_law_draw_3 (aCons (cV 0) (aCons (cBin dShl (cK (.int 1)) (cBin dIx2 (cV 1) (cK (.int 0)))) (aNil)))))) (sSeq (sIf (tAnd' (tNot' (tE (cV 2))) (tE (cBin dEq (cCall g_law_draw_3 (aCons (cV 0) (aCons (cK (.int 3)) (aNil)))) (cK (.int 0))))) (sSet 5 (cCall g_law_value_4 (aCons (cV 0) (aCons (cV 1) (aNil))))) (sNil)) (sPut dPut2 (cV 3) (cV 5) (cPick (cChk (aCons (cK (.int 0)) (aCons (cCall g_law_value_4 (aCons (cV 0) (aCons (cV 1) (aNil)))) (aNil)))) (cCall bInt (aCons (cBin dGt (cCall g_law_draw_3 (aCons (cV 0) (aCons (cK (.int 4)) (aNil)))) (cK (.int 0))) (aNil)))))))) (sRet (cV 3)))
def g_law_memory : List D → Cm D := dfn 3 6 c_law_memory
theorem u_law_memory {a0 a1 a2 : D} {s : Sto} {Q : D → Sto → Prop} {E : XP} {u : Lk2 Q E} (k : ws c_law_memory [some a0, some a1, some a2, none, none, none] s (fun _ t => Q .non t) Q NE NE E) : wp (g_law_memory [a0, a1, a2]) s Q E u := wp_dfn rfl k
def c_law_number_3 : CS := sSeq (sSet 1 (cLst (aCons (cBin dSub (cCall g_law_draw_3 (aCons (cV 0) (aCons (cK (.int 17)) (aNil)))) (cK (.int 8))) (aCons (cBin dSub (cCall g_law_draw_3 (aCons (cV 0) (aCons (cBin dPow (cK (.int 2)) (cK (.int 18))) (aNil)))) (cBin dPow (cK (.int 2)) (cK (.int 17)))) (aCons (cBin dSub (cBin dPow (cK (.int 2)) (cK (.int 17))) (cK (.int 1))) (aCons (cBin dSub (cK (.int 0)) (cBin dPow (cK (.int 2)) (cK (.int 17)))) (aNil))))))) (sRet (cBin dIx2 (cV 1) (cPick (cChk (aCons (cK (.int 0)) (aCons (cK (.int 0)) (aCons (cK (.int 0)) (aCons (cK (.int 0)) (aCons (cK (.int 1)) (aCons (cK (.int 1)) (aCons (cK (.int 2)) (aCons (cK (.int 3)) (aNil)))))))))) (cCall g_law_draw_3 (aCons (cV 0) (aCons (cK (.int 8)) (aNil)))))))
def g_law_number_3 : List D → Cm D := dfn 1 2 c_law_number_3
theorem u_law_number_3 {a0 : D} {s : Sto} {Q : D → Sto → Prop} {E : XP} {u : Lk2 Q E} (k : ws c_law_number_3 [some a0, none] s (fun _ t => Q .non t) Q NE NE E) : wp (g_law_number_3 [a0]) s Q E u := wp_dfn rfl k
def c_law_target_1 : CS := sRet (cPick (cChk (aCons (cCall g_law_draw_3 (aCons (cV 0) (aCons (cV 1) (aNil)))) (aCons (cCall g_law_draw_3 (aCons (cV 0) (aCons (cBin dPow (cK (.int 2)) (cK (.int 18))) (aNil)))) (aCons (cBin dSub (cBin dPow (cK (.int 2)) (cK (.int 18))) (cK (.int 1))) (aNil))))) (cCall bMax (aCons (cK (.int 0)) (aCons (cBin dSub (cCall g_law_draw_3 (aCons (cV 0) (aCons (cK (.int 8)) (aNil)))) (cK (.int 5))) (aNil)))))
def g_law_target_1 : List D → Cm D := dfn 2 2 c_law_target_1
theorem u_law_target_1 {a0 a1 : D} {s : Sto} {Q : D → Sto → Prop} {E : XP} {u : Lk2 Q E} (k : ws c_law_target_1 [some a0, some a1] s (fun _ t => Q .non t) Q NE NE E) : wp (g_law_target_1 [a0, a1]) s Q E u := wp_dfn rfl k
def c_law_one_1 : CS := sSeq (sUnp2 [5, 6, 7] (cLc (iRng (cK (.int 3))) (.v 8) [8] (tYesD) (cCall g_law_draw_3 (aCons (cV 0) (aCons (cK (.int 8)) (aNil)))))) (sSeq (sSet 4 (cBin dIx2 (cCall g_law_sorts aNil) (cV 2))) (sSeq (sIf (tE (cBin dEq (cV 2) (cK (.int 0)))) (sRet (cTup (aCons (cV 4) (aNil)))) (sNil)) (sSeq (sIf (tE (cBin dEq (cV 2) (cK (.int 1)))) (sRet (cTup (aCons (cV 4) (aCons (cV 5) (aCons (cCall g_law_value_4 (aCons (cV 0) (aCons (cV 1) (aNil)))) (aNil)))))) (sNil)) (sSeq (sIf (tE (cBin dLt (cV 2) (cK (.int 10)))) (sRet (cTup (aCons (cV 4) (aCons (cV 5) (aCons (cV 6) (aCons (cV 7) (aNil))))))) (sNil)) (sSeq (sIf (tE (cBin dLt (cV 2) (cK (.int 13)))) (sRet (cTup (aCons (cV 4) (aCons (cV 5) (aCons (cV 6) (aCons (cCall g_law_number_3 (aCons (cV 0) (aNil))) (aNil))))))) (sNil)) (sSeq (sIf (tE (cBin dEq (cV 2) (cK (.int 13)))) (sRet (cTup (aCons (cV 4) (aCons (cCall g_law_target_1 (aCons (cV 0) (aCons (cV 3) (aNil)))) (aNil))))) (sNil)) (sSeq (sIf (tE (cBin dEq (cV 2) (cK (.int 14)))) (sRet (cTup (aCons (cV 4) (aCons (cV 5) (aCons (cCall g_law_target_1 (aCons (cV 0) (aCons (cV 3) (aNil)))) (aNil)))))) (sNil)) (sSeq (sIf (tE (cBin dEq (cV 2) (cK (.int 15)))) (sRet (cTup (aCons (cV 4) (aCons (cV 6) (aNil))))) (sNil)) (sSeq (sIf (tE (cBin dLt (cV 2) (cK (.int 18)))) (sRet (cTup (aCons (cV 4) (aCons (cV 5) (aCons (cV 6) (aNil)))))) (sNil)) (sRet (cTup (aCons (cV 4) (aCons (cPick (cChk (aCons (cCall g_law_draw_3 (aCons (cV 0) (aCons (cK (.int 17)) (aNil)))) (aCons (cCall g_law_draw_3 (aCons (cV 0) (aCons (cBin dPow (cK (.int 2)) (cK (.int 18))) (aNil)))) (aNil)))) (cCall bInt (aCons (cBin dEq (cCall g_law_draw_3 (aCons (cV 0) (aCons (cK (.int 6)) (aNil)))) (cK (.int 1))) (aNil)))) (aNil))))))))))))))
def g_law_one_1 : List D → Cm D := dfn 4 9 c_law_one_1
theorem u_law_one_1 {a0 a1 a2 a3 : D} {s : Sto} {Q : D → Sto → Prop} {E : XP} {u : Lk2 Q E} (k : ws c_law_one_1 [some a0, some a1, some a2, some a3, none, none, none, none, none] s (fun _ t => Q .non t) Q NE NE E) : wp (g_law_one_1 [a0, a1, a2, a3]) s Q E u := wp_dfn rfl k
def c_law_code_1 : CS := sSeq (sSet 3 (cLst (aNil))) (sSeq (sFor (iRng (cCall g_law_draw_3 (aCons (cV 0) (aCons (cBin dAdd (cV 2) (cK (.int 1))) (aNil))))) (.v 4) (sIf (tE (cBin dEq (cCall g_law_draw_3 (aCons (cV 0) (aCons (cK (.int 6)) (aNil)))) (cK (.int 0)))) (sDrop (cBmL dApp (cV 3) (aCons (cCall g_law_draw_3 (aCons (cV 0) (aCons (cBin dPow (cK (.int 2)) (cK (.int 32))) (aNil)))) (aNil)))) (sDrop (cBmL dExt (cV 3) (aCons (cCall g_law_words_2 (aCons (cCall g_law_one_1 (aCons (cV 0) (aCons (cV 1) (aCons (cCall g_law_draw_3 (aCons (cV 0) (aCons (cK (.int 19)) (aNil)))) (aCons (cBin dAdd (cV 2) (cK (.int 2))) (aNil)))))) (aNil))) (aNil)))))) (sRet (cV 3)))
def g_law_code_1 : List D → Cm D := dfn 3 5 c_law_code_1
theorem u_law_code_1 {a0 a1 a2 : D} {s : Sto} {Q : D → Sto → Prop} {E : XP} {u : Lk2 Q E} (k : ws c_law_code_1 [some a0, some a1, some a2, none, none] s (fun _ t => Q .non t) Q NE NE E) : wp (g_law_code_1 [a0, a1, a2]) s Q E u := wp_dfn rfl k
def c_law_bits : CS := sSeq (sSet 3 (cK (.int 0))) (sSeq (sFor (iRng (cK (.int 32))) (.v 4) (sSeq (sSet 5 (cBin dMod (cBin dDiv (cV 1) (cBin dPow (cK (.int 2)) (cK (.int 31)))) (cK (.int 2)))) (sSeq (sSet 6 (cBin dMod (cBin dDiv (cV 2) (cBin dPow (cK (.int 2)) (cK (.int 31)))) (cK (.int 2)))) (sSeq (sSet 1 (cBin dMod (cBin dMul (cV 1) (cK (.int 2))) (cBin dPow (cK (.int 2)) (cK (.int 32))))) (sSeq (sSet 2 (cBin dMod (cBin dMul (cV 2) (cK (.int 2))) (cBin dPow (cK (.int 2)) (cK (.int 32))))) (sSeq (sSet 7 (cBin dAdd (cV 5) (cV 6))) (sSet 3 (cBin dAdd (cBin dMul (cK (.int 2)) (cV 3)) (cPick (cChk (aCons (cCall bInt (aCons (cBin dEq (cV 7) (cK (.int 2))) (aNil))) (aCons (cCall bInt (aCons (cBin dGt (cV 7) (cK (.int 0))) (aNil))) (aCons (cCall bInt (aCons (cBin dEq (cV 7) (cK (.int 1))) (aNil))) (aNil))))) (cBmL dIndexL (cLst (aCons (cK (.str "and")) (aCons (cK (.str "or")) (aCons (cK (.str "xor")) (aNil))))) (aCons (cV 0) (aNil)))))))))))) (sRet (cV 3)))
def g_law_bits : List D → Cm D := dfn 3 8 c_law_bits
theorem u_law_bits {a0 a1 a2 : D} {s : Sto} {Q : D → Sto → Prop} {E : XP} {u : Lk2 Q E} (k : ws c_law_bits [some a0, some a1, some a2, none, none, none, none, none] s (fun _ t => Q .non t) Q NE NE E) : wp (g_law_bits [a0, a1, a2]) s Q E u := wp_dfn rfl k
def c_law_of_two : CS := sSeq (sIf (tE (cBin dEq (cV 0) (cK (.str "add")))) (sRet (cBin dMod (cBin dAdd (cV 1) (cV 2)) (cBin dPow (cK (.int 2)) (cK (.int 32))))) (sNil)) (sSeq (sIf (tE (cBin dEq (cV 0) (cK (.str "sub")))) (sRet (cBin dMod (cBin dSub (cV 1) (cV 2)) (cBin dPow (cK (.int 2)) (cK (.int 32))))) (sNil)) (sSeq (sIf (tE (cBin dEq (cV 0) (cK (.str "less")))) (sRet (cCall bInt (aCons (cBin dLt (cV 1) (cV 2)) (aNil)))) (sNil)) (sSeq (sIf (tE (cBin (dIn false) (cV 0) (cTup (aCons (cK (.str "and")) (aCons (cK (.str "or")) (aCons (cK (.str "xor")) (aNil))))))) (sRet (cCall g_law_bits (aCons (cV 0) (aCons (cV 1) (aCons (cV 2) (aNil)))))) (sNil)) (sSeq (sFor (iRng (cBin dMod (cV 2) (cK (.int 32)))) (.v 3) (sSet 1 (cPick (cChk (aCons (cBin dDiv (cV 1) (cK (.int 2))) (aCons (cBin dMod (cBin dMul (cV 1) (cK (.int 2))) (cBin dPow (cK (.int 2)) (cK (.int 32)))) (aNil)))) (cCall bInt (aCons (cBin dEq (cV 0) (cK (.str "left"))) (aNil)))))) (sRet (cV 1))))))
def g_law_of_two : List D → Cm D := dfn 3 4 c_law_of_two
theorem u_law_of_two {a0 a1 a2 : D} {s : Sto} {Q : D → Sto → Prop} {E : XP} {u : Lk2 Q E} (k : ws c_law_of_two [some a0, some a1, some a2, none] s (fun _ t => Q .non t) Q NE NE E) : wp (g_law_of_two [a0, a1, a2]) s Q E u := wp_dfn rfl k
def c_law_makes_2 : CS := sSeq (sIf (tE (cBin dEq (cBin dIx2 (cV 1) (cK (.int 0))) (cK (.str "put")))) (sRet (cBin dIx2 (cV 1) (cK (.int 2)))) (sNil)) (sSeq (sIf (tE (cBin dEq (cBin dIx2 (cV 1) (cK (.int 0))) (cK (.str "more")))) (sRet (cBin dMod (cBin dAdd (cBin dIx2 (cV 2) (cBin dIx2 (cV 1) (cK (.int 2)))) (cBin dIx2 (cV 1) (cK (.int 3)))) (cBin dPow (cK (.int 2)) (cK (.int 32))))) (sNil)) (sSeq (sIf (tE (cBin dEq (cBin dIx2 (cV 1) (cK (.int 0))) (cK (.str "fit")))) (sRet (cBin dAdd (cBin dIx2 (cV 0) (cK (.int 1))) (cBin dMod (cBin dIx2 (cV 2) (cBin dIx2 (cV 1) (cK (.int 2)))) (cBin dShl (cK (.int 1)) (cBin dIx2 (cV 0) (cK (.int 0))))))) (sNil)) (sSeq (sIf (tE (cBin dEq (cBin dIx2 (cV 1) (cK (.int 0))) (cK (.str "aim")))) (sRet (cBin dMul (cBin dMul (cBin dMod (cBin dIx2 (cV 2) (cBin dIx2 (cV 1) (cK (.int 2)))) (cBin dShl (cK (.int 1)) (cBin dIx2 (cV 0) (cK (.int 2))))) (cK (.int 8))) (cBin dShl (cK (.int 1)) (cBin dIx2 (cV 0) (cK (.int 3)))))) (sNil)) (sSeq (sIf (tE (cBin (dIn false) (cBin dIx2 (cV 1) (cK (.int 0))) (cTup (aCons (cK (.str "add")) (aCons (cK (.str "sub")) (aCons (cK (.str "and")) (aCons (cK (.str "or")) (aCons (cK (.str "xor")) (aCons (cK (.str "less")) (aCons (cK (.str "left")) (aCons (cK (.str "right")) (aNil)))))))))))) (sRet (cCall g_law_of_two (aCons (cBin dIx2 (cV 1) (cK (.int 0))) (aCons (cBin dIx2 (cV 2) (cBin dIx2 (cV 1) (cK (.int 2)))) (aCons (cBin dIx2 (cV 2) (cBin dIx2 (cV 1) (cK (.int 3)))) (aNil)))))) (sNil)) (sRet (cK .non))))))
def g_law_makes_2 : List D → Cm D := dfn 3 3 c_law_makes_2
theorem u_law_makes_2 {a0 a1 a2 : D} {s : Sto} {Q : D → Sto → Prop} {E : XP} {u : Lk2 Q E} (k : ws c_law_makes_2 [some a0, some a1, some a2] s (fun _ t => Q .non t) Q NE NE E) : wp (g_law_makes_2 [a0, a1, a2]) s Q E u := wp_dfn rfl k
def c_law_goes_1 : CS := sSeq (sIf (tOr' (tE (cBin dEq (cBin dIx2 (cV 0) (cK (.int 0))) (cK (.str "jump")))) (tAnd' (tE (cBin dEq (cBin dIx2 (cV 0) (cK (.int 0))) (cK (.str "jumpif")))) (tE (cBin dNe (cBin dIx2 (cV 2) (cBin dIx2 (cV 0) (cK (.int 1)))) (cK (.int 0)))))) (sRet (cBin dIx2 (cV 0) (cUn dNeg (cK (.int 1))))) (sNil)) (sSeq (sIf (tE (cBin dEq (cBin dIx2 (cV 0) (cK (.int 0))) (cK (.str "through")))) (sRet (cBin dIx2 (cV 2) (cBin dIx2 (cV 0) (cK (.int 1))))) (sNil)) (sRet (cBin dAdd (cBin dAdd (cV 1) (cK (.int 1))) (cCall bInt (aCons (cBin dEq (cBin dIx2 (cV 0) (cK (.int 0))) (cK (.str "put"))) (aNil))))))
def g_law_goes_1 : List D → Cm D := dfn 3 3 c_law_goes_1
theorem u_law_goes_1 {a0 a1 a2 : D} {s : Sto} {Q : D → Sto → Prop} {E : XP} {u : Lk2 Q E} (k : ws c_law_goes_1 [some a0, some a1, some a2] s (fun _ t => Q .non t) Q NE NE E) : wp (g_law_goes_1 [a0, a1, a2]) s Q E u := wp_dfn rfl k
def c_law_reach : CS := sSeq (sSet 4 (cBin dMod (cBin dAdd (cBin dIx2 (cV 2) (cBin dIx2 (cV 1) (cK (.int 2)))) (cBin dIx2 (cV 1) (cK (.int 3)))) (cBin dPow (cK (.int 2)) (cK (.int 32))))) (sSeq (sIf (tNot' (tE (cChain dLe dLt (cBin dIx2 (cV 0) (cK (.int 1))) (cV 4) (cBin dAdd (cBin dIx2 (cV 0) (cK (.int 1))) (cBin dShl (cK (.int 1)) (cBin dIx2 (cV 0) (cK (.int 0)))))))) (sRet (cV 4)) (sNil)) (sSeq (sIf (tE (cBin dEq (cBin dIx2 (cV 1) (cK (.int 0))) (cK (.str "store")))) (sPut dPut2 (cV 3) (cV 4) (cBin dIx2 (cV 2) (cBin dIx2 (cV 1) (cK (.int 1))))) (sPut dPut2 (cV 2) (cBin dIx2 (cV 1) (cK (.int 1))) (cGetD (cV 3) (cV 4) (cK (.int 0))))) (sRet (cK .non))))
def g_law_reach : List D → Cm D := dfn 4 5 c_law_reach
theorem u_law_reach {a0 a1 a2 a3 : D} {s : Sto} {Q : D → Sto → Prop} {E : XP} {u : Lk2 Q E} (k : ws c_law_reach [some a0, some a1, some a2, some a3, none] s (fun _ t => Q .non t) Q NE NE E) : wp (g_law_reach [a0, a1, a2, a3]) s Q E u := wp_dfn rfl k
def c_law_gate : CS := sSeq (sIf (tE (cBin dGe (cV 1) (cBin dIx2 (cV 0) (cK (.int 4))))) (sRet (cTup (aCons (cK (.str "lost")) (aNil)))) (sNil)) (sSeq (sDrop (cBmL dApp (cV 4) (aCons (cTup (aCons (cV 1) (aCons (cCall bTuple (aCons (cV 2) (aNil))) (aCons (cCall bDict (aCons (cV 3) (aNil))) (aNil))))) (aNil)))) (sSeq (sIf (tE (cBin dGt (cCall bLen (aCons (cV 4) (aNil))) (cCall bLen (aCons (cV 5) (aNil))))) (sRet (cTup (aCons (cK (.str "asks")) (aCons (cV 1) (aNil))))) (sNil)) (sSeq (sUnp2 [8, 9] (cBin dIx2 (cV 5) (cBin dSub (cCall bLen (aCons (cV 4) (aNil))) (cK (.int 1))))) (sSeq (sFor (iRng (cK (.int 7))) (.v 6) (sPut dPut2 (cV 2) (cV 6) (cBin dIx2 (cV 8) (cV 6)))) (sSeq (sLock 9 (sFor (iKeysF 9) (.v 7) (sPut dPut2 (cV 3) (cV 7) (cBin dIx2 (cV 9) (cV 7))))) (sRet (cK .non)))))))
def g_law_gate : List D → Cm D := dfn 6 10 c_law_gate
theorem u_law_gate {a0 a1 a2 a3 a4 a5 : D} {s : Sto} {Q : D → Sto → Prop} {E : XP} {u : Lk2 Q E} (k : ws c_law_gate [some a0, some a1, some a2, some a3, some a4, some a5, none, none, none, none] s (fun _ t => Q .non t) Q NE NE E) : wp (g_law_gate [a0, a1, a2, a3, a4, a5]) s Q E u := wp_dfn rfl k
def c_law_run : CS := sSeq (sPar [8, 9, 10] (aCons (cBin dIx2 (cV 2) (cK (.int 0))) (aCons (cCall bList (aCons (cBin dIx2 (cV 2) (cK (.int 1))) (aNil))) (aCons (cCall bDict (aCons (cBin dIx2 (cV 2) (cK (.int 2))) (aNil))) (aNil))))) (sSeq (sSet 5 (cLst (aNil))) (sSeq (sSet 6 (cK (.int 0))) (sSeq (sSet 7 (cK .non)) (sSeq (sWhile (tE (cUn dIsN (cV 7))) (sSeq (sSet 11 (cCall g_law_read_2 (aCons (cV 1) (aCons (cV 8) (aNil))))) (sIf (tE (cUn dIsN (cV 11))) (sSet 7 (cTup (aCons (cK (.str "lost")) (aNil)))) (sIf (tE (cBin dEq2 (cV 6) (cV 4))) (sSet 7 (cTup (aCons (cK (.str "spent")) (aNil)))) (sSeq (sSet 6 (cBin dAdd (cV 6) (cK (.int 1)))) (sSeq (sSet 12 (cCall g_law_makes_2 (aCons (cV 0) (aCons (cV 11) (aCons (cV 9) (aNil)))))) (sSeq (sIf (tE (cBin dEq (cBin dIx2 (cV 11) (cK (.int 0))) (cK (.str "stop")))) (sSet 7 (cTup (aCons (cK (.str "stopped")) (aNil)))) (sIf (tE (cBin dEq (cBin dIx2 (cV 11) (cK (.int 0))) (cK (.str "gate")))) (sSet 7 (cCall g_law_gate (aCons (cV 0) (aCons (cBin dIx2 (cV 11) (cK (.int 1))) (aCons (cV 9) (aCons (cV 10) (aCons (cV 5) (aCons (cV 3) (aNil))))))))) (sIf (tE (cBin (dIn false) (cBin dIx2 (cV 11) (cK (.int 0))) (cTup (aCons (cK (.str "load")) (aCons (cK (.str "store")) (aNil)))))) (sSeq (sSet 13 (cCall g_law_reach (aCons (cV 0) (aCons (cV 11) (aCons (cV 9) (aCons (cV 10) (aNil))))))) (sIf (tE (cUn dNotN (cV 13))) (sSet 7 (cTup (aCons (cK (.str "beyond")) (aCons (cV 13) (aNil))))) (sNil))) (sIf (tE (cUn dNotN (cV 12))) (sPut dPut2 (cV 9) (cBin dIx2 (cV 11) (cK (.int 1))) (cV 12)) (sNil))))) (sIf (tE (cUn dIsN (cV 7))) (sSet 8 (cCall g_law_goes_1 (aCons (cV 11) (aCons (cV 8) (aCons (cV 9) (aNil)))))) (sNil))))))))) (sRet (cTup (aCons (cV 7) (aCons (cTup (aCons (cV 8) (aCons (cCall bTuple (aCons (cV 9) (aNil))) (aCons (cV 10) (aNil))))) (aCons (cV 5) (aCons (cV 6) (aNil)))))))))))
def g_law_run : List D → Cm D := dfn 5 14 c_law_run
theorem u_law_run {a0 a1 a2 a3 a4 : D} {s : Sto} {Q : D → Sto → Prop} {E : XP} {u : Lk2 Q E} (k : ws c_law_run [some a0, some a1, some a2, some a3, some a4, none, none, none, none, none, none, none, none, none] s (fun _ t => Q .non t) Q NE NE E) : wp (g_law_run [a0, a1, a2, a3, a4]) s Q E u := wp_dfn rfl k
def c_law_whole_1 : CS := sRet (cAnd (cUn (dIsi "int") (cV 0)) (cNot (cUn (dIsi "bool") (cV 0))))
def g_law_whole_1 : List D → Cm D := dfn 1 1 c_law_whole_1
theorem u_law_whole_1 {a0 : D} {s : Sto} {Q : D → Sto → Prop} {E : XP} {u : Lk2 Q E} (k : ws c_law_whole_1 [some a0] s (fun _ t => Q .non t) Q NE NE E) : wp (g_law_whole_1 [a0]) s Q E u := wp_dfn rfl k
def c_law_alike_3 (g : List D → Cm D) : CS := sSeq (sIf (tOr' (tE (cUn (dIsi "tuple") (cV 1))) (tE (cUn (dIsi "list") (cV 1)))) (sSeq (sIf (tOr' (tE (cBin dNe2 (cUn (dIsi "tuple") (cV 0)) (cUn (dIsi "tuple") (cV 1)))) (tE (cBin dNe2 (cUn (dIsi "list") (cV 0)) (cUn (dIsi "list") (cV 1))))) (sRet (cK (.bl false))) (sNil)) (sRet (cAnd (cBin dEq2 (cCall bLen (aCons (cV 0) (aNil))) (cCall bLen (aCons (cV 1) (aNil)))) (cAllA (cLcA (iZip (cV 0) (cV 1)) (.t [2, 3]) [2, 3] (tYesD) (cCall g (aCons (cV 2) (aCons (cV 3) (aNil))))))))) (sNil)) (sSeq (sIf (tE (cUn (dIsi "dict") (cV 1))) (sSeq (sIf (tOr' (tNot' (tE (cUn (dIsi "dict") (cV 0)))) (tNot' (tE (cAllA (aLock 0 (cLcA (iKeysF 0) (.v 4) [4] (tYesD) (cCall g_law_whole_1 (aCons (cBin dIx2 (cV 0) (cV 4)) (aNil))))))))) (sRet (cK (.bl false))) (sNil)) (sRet (cBin dEq2 (cV 0) (cV 1)))) (sNil)) (sRet (cAnd (cOr (cCall g_law_whole_1 (aCons (cV 0) (aNil))) (cUn (dIsi "str") (cV 0))) (cBin dEq2 (cV 0) (cV 1)))))
def g_rlaw_alike_3 (n : Nat) : List D → Cm D := n.rec (dfn 2 5 fun _ => noC) (fun _ g => dfn 2 5 (c_law_alike_3 g))
def g_law_alike_3 : List D → Cm D := g_rlaw_alike_3 6
theorem u_law_alike_3 {n : Nat} {a0 a1 : D} {s : Sto} {Q : D → Sto → Prop} {E : XP} {u : Lk2 Q E} (k : ws (c_law_alike_3 (g_rlaw_alike_3 n)) [some a0, some a1, none, none, none] s (fun _ t => Q .non t) Q NE NE E) : wp (g_rlaw_alike_3 (n + 1) [a0, a1]) s Q E u := wp_dfn (c := c_law_alike_3 (g_rlaw_alike_3 n)) rfl k
def c_law_straight_1 : CS := sSeq (sSet 2 (cLst (aNil))) (sSeq (sFor (iRng (cCall g_law_draw_3 (aCons (cV 0) (aCons (cK (.int 21)) (aNil))))) (.v 3) (sSeq (sIf (tE (cBin dEq (cCall g_law_draw_3 (aCons (cV 0) (aCons (cK (.int 8)) (aNil)))) (cK (.int 0)))) (sDrop (cBmL dExt (cV 2) (aCons (cCall g_law_words_2 (aCons (cTup (aCons (cK (.str "gate")) (aCons (cCall g_law_draw_3 (aCons (cV 0) (aCons (cBin dPow (cK (.int 2)) (cK (.int 18))) (aNil)))) (aNil)))) (aNil))) (aNil)))) (sDrop (cBmL dExt (cV 2) (aCons (cCall g_law_words_2 (aCons (cTup (aCons (cK (.str "gate")) (aCons (cCall g_law_draw_3 (aCons (cV 0) (aCons (cCall bMax (aCons (cK (.int 1)) (aCons (cBin dIx2 (cV 1) (cK (.int 4))) (aNil)))) (aNil)))) (aNil)))) (aNil))) (aNil))))) (sFor (iRng (cCall g_law_draw_3 (aCons (cV 0) (aCons (cK (.int 3)) (aNil))))) (.v 4) (sSeq (sSet 5 (cCall g_law_draw_3 (aCons (cV 0) (aCons (cK (.int 7)) (aNil))))) (sSeq (sSet 6 (cCall g_law_draw_3 (aCons (cV 0) (aCons (cK (.int 8)) (aNil))))) (sSeq (sSet 7 (cPick (cChk (aCons (cK (.str "more")) (aCons (cK (.str "store")) (aCons (cK (.str "load")) (aNil))))) (cCall g_law_draw_3 (aCons (cV 0) (aCons (cK (.int 3)) (aNil)))))) (sSeq (sDrop (cBmL dExt (cV 2) (aCons (cBin dMul (cCall g_law_words_2 (aCons (cTup (aCons (cK (.str "fit")) (aCons (cV 5) (aCons (cV 6) (aNil))))) (aNil))) (cCall bInt (aCons (cBin dNe (cV 7) (cK (.str "more"))) (aNil)))) (aNil)))) (sDrop (cBmL dExt (cV 2) (aCons (cCall g_law_words_2 (aCons (cTup (aCons (cV 7) (aCons (cCall g_law_draw_3 (aCons (cV 0) (aCons (cK (.int 7)) (aNil)))) (aCons (cV 5) (aCons (cPick (cChk (aCons (cK (.int 0)) (aCons (cCall g_law_number_3 (aCons (cV 0) (aNil))) (aNil)))) (cCall bInt (aCons (cBin dEq (cV 7) (cK (.str "more"))) (aNil)))) (aNil)))))) (aNil))) (aNil))))))))))) (sRet (cBin dAdd (cV 2) (cLst (aCons (cK (.int 0)) (aNil))))))
def g_law_straight_1 : List D → Cm D := dfn 2 8 c_law_straight_1
theorem u_law_straight_1 {a0 a1 : D} {s : Sto} {Q : D → Sto → Prop} {E : XP} {u : Lk2 Q E} (k : ws c_law_straight_1 [some a0, some a1, none, none, none, none, none, none] s (fun _ t => Q .non t) Q NE NE E) : wp (g_law_straight_1 [a0, a1]) s Q E u := wp_dfn rfl k
def c_law_k33_1 : CS := sSeq (sSet 1 (cLst (aCons (cV 0) (aCons (cK (.int 0)) (aCons (cK (.int 0)) (aNil)))))) (sSeq (sSet 2 (cCall g_law_plan_3 (aCons (cV 1) (aNil)))) (sSeq (sSet 3 (cCall g_law_straight_1 (aCons (cV 1) (aCons (cV 2) (aNil))))) (sSeq (sSet 4 (cCall g_law_boxes_2 (aCons (cV 1) (aCons (cV 2) (aCons (cK (.int 8)) (aNil)))))) (sSeq (sSet 5 (cTup (aCons (cK (.int 0)) (aCons (cV 4) (aCons (cCall g_law_memory (aCons (cV 1) (aCons (cV 2) (aCons (cK (.bl false)) (aNil))))) (aNil)))))) (sSeq (sSet 6 (cLc (iRng (cCall g_law_draw_3 (aCons (cV 1) (aCons (cK (.int 21)) (aNil))))) (.v 12) [12] (tYesD) (cTup (aCons (cCall g_law_boxes_2 (aCons (cV 1) (aCons (cV 2) (aCons (cK (.int 7)) (aNil))))) (aCons (cCall g_law_memory (aCons (cV 1) (aCons (cV 2) (aCons (cK (.bl true)) (aNil))))) (aNil)))))) (sSeq (sSet 7 (cPick (cChk (aCons (cK (.int 1000)) (aCons (cCall g_law_draw_3 (aCons (cV 1) (aCons (cK (.int 20)) (aNil)))) (aNil)))) (cCall bInt (aCons (cBin dEq (cCall g_law_draw_3 (aCons (cV 1) (aCons (cK (.int 3)) (aNil)))) (cK (.int 1))) (aNil))))) (sSeq (sSet 8 (cCall g_law_run (aCons (cV 2) (aCons (cV 3) (aCons (cV 5) (aCons (cV 6) (aCons (cV 7) (aNil)))))))) (sSeq (sSet 9 (cLc (iSeq (cV 6)) (.t [13, 14]) [13, 14] (tYesD) (cTup (aCons (cV 13) (aCons (cCall bDict (aCons (cV 14) (aNil))) (aNil)))))) (sSeq (sSet 10 (cCall bDict (aCons (cBin dIx2 (cV 5) (cK (.int 2))) (aNil)))) (sSeq (sSet 11 (cCall g_run (aCons (cV 2) (aCons (cV 3) (aCons (cV 5) (aCons (cV 9) (aCons (cV 7) (aNil)))))))) (sSeq (sIf (tOr' (tNot' (tE (cCall g_law_alike_3 (aCons (cV 11) (aCons (cV 8) (aNil)))))) (tOr' (tNot' (tE (cCall g_law_alike_3 (aCons (cV 9) (aCons (cV 6) (aNil)))))) (tE (cBin dNe2 (cBin dIx2 (cV 5) (cK (.int 2))) (cV 10))))) (sRet (cK (.bl false))) (sNil)) (sSeq (sIf (tOr' (tE (cBin dNe2 (cBin dIx2 (cBin dIx2 (cBin dIx2 (cV 11) (cK (.int 1))) (cK (.int 1))) (cK (.int 7))) (cBin dIx2 (cBin dIx2 (cV 5) (cK (.int 1))) (cK (.int 7))))) (tNot' (tE (cAllA (cLcA (iSeq (cBin dIx2 (cV 11) (cK (.int 2)))) (.v 15) [15] (tYesD) (cBin dEq2 (cBin dIx2 (cBin dIx2 (cV 15) (cK (.int 1))) (cK (.int 7))) (cBin dIx2 (cBin dIx2 (cV 5) (cK (.int 1))) (cK (.int 7))))))))) (sRet (cK (.bl false))) (sNil)) (sSeq (sDrop (cClrD (cBin dIx2 (cBin dIx2 (cV 11) (cK (.int 1))) (cK (.int 2))))) (sSeq (sFor (iRng (cCall bLen (aCons (cBin dIx2 (cV 8) (cK (.int 2))) (aNil)))) (.v 12) (sSeq (sIf (tNot' (tE (cCall g_law_alike_3 (aCons (cSl (cBin dIx2 (cV 11) (cK (.int 2))) (oSome (cV 12)) (oNone)) (aCons (cSl (cBin dIx2 (cV 8) (cK (.int 2))) (oSome (cV 12)) (oNone)) (aNil)))))) (sRet (cK (.bl false))) (sNil)) (sDrop (cClrD (cBin dIx2 (cBin dIx2 (cBin dIx2 (cV 11) (cK (.int 2))) (cV 12)) (cK (.int 2))))))) (sSeq (sDrop (cBmL dClear (cBin dIx2 (cV 11) (cK (.int 2))) aNil)) (sRet (cAnd (cCall g_law_alike_3 (aCons (cCall g_run (aCons (cV 2) (aCons (cV 3) (aCons (cV 5) (aCons (cV 9) (aCons (cV 7) (aNil))))))) (aCons (cV 8) (aNil)))) (cCall g_law_alike_3 (aCons (cV 9) (aCons (cV 6) (aNil)))))))))))))))))))))
def g_law_k33_1 : List D → Cm D := dfn 1 16 c_law_k33_1
theorem u_law_k33_1 {a0 : D} {s : Sto} {Q : D → Sto → Prop} {E : XP} {u : Lk2 Q E} (k : ws c_law_k33_1 [some a0, none, none, none, none, none, none, none, none, none, none, none, none, none, none, none] s (fun _ t => Q .non t) Q NE NE E) : wp (g_law_k33_1 [a0]) s Q E u := wp_dfn rfl k
end
end P

set_option Elab.async false
set_option linter.all false
set_option maxRecDepth 100000
set_option maxHeartbeats 4000000
/-! of use in many laws: == of lists of ints, slices -/
namespace P
open PySem L2 G
theorem okL_ints : ∀ is : List Int, okL (is.map D.int) = true
  | [] => rfl
  | i :: is => by simp only [List.map_cons, okL, okL_ints is, okD, Bool.and_self]
theorem dpL_ints : ∀ is : List Int, dpL (is.map D.int) ≤ 1
  | [] => by simp [dpL]
  | i :: is => by
    have := dpL_ints is
    simp only [List.map_cons, dpL, dpD]
    omega
/-- == of two lists of the same data -/
theorem eq_lists {s : Sto} {i j : Nat} {xs : List D} (hi : At s i (.lst xs)) (hj : At s j (.lst xs)) (h : okL xs = true) (d : dpL xs < 8) : eqX s (.box i) (.box j) = some true := by
  obtain ⟨ds, h1, h2, h3⟩ := datL_ok 8 xs h d
  have e : ∀ k, At s k (.lst xs) → datD s 9 (.box k) = some (.list ds) := fun k hk => by
    show (match lAt s k with | some ds => (datL (datD s 8) ds).map PyData.list | none => none) = _
    rw [lAt_at hk]
    simp only [h1]
    rfl
  exact eqX_data (e i hi) (e j hj) (by simpa [PyData.canLay0] using h2) (by simp [PyData.depth]; omega)
theorem eq_boxes {s : Sto} {i j : Nat} {is : List Int} (hi : At s i (.lst (is.map D.int))) (hj : At s j (.lst (is.map D.int))) : eqX s (.box i) (.box j) = some true := eq_lists hi hj (okL_ints is) (by have := dpL_ints is; omega)
theorem sIx_nn {n d : Nat} {i : Int} (h : 0 ≤ i) : HT.sIx n d (some i) = min i.toNat n := by
  unfold HT.sIx
  dsimp only
  split
  · omega
  · rfl
theorem sIx_none {n d : Nat} : HT.sIx n d none = d := rfl
theorem cut_to {xs : List D} {i : Int} (h : 0 ≤ i) : cutD xs none (some i) = xs.take i.toNat := by
  unfold cutD
  rw [sIx_none, sIx_nn h]
  simp only [List.drop_zero, Nat.sub_zero]
  rw [← List.take_take, List.take_of_length_le (Nat.le_refl xs.length)]
theorem cut_from {xs : List D} {i : Int} (h : 0 ≤ i) : cutD xs (some i) none = xs.drop i.toNat := by
  unfold cutD
  rw [sIx_none, sIx_nn h]
  by_cases c : i.toNat ≤ xs.length
  · rw [Nat.min_eq_left c, List.take_of_length_le (by simp)]
  · rw [Nat.min_eq_right (by omega), List.drop_of_length_le (Nat.le_refl _), List.drop_of_length_le (by omega)]; simp
theorem cut_all {xs : List D} : cutD xs none none = xs := by
  unfold cutD
  rw [sIx_none, sIx_none]
  simp
end P

set_option Elab.async false
set_option linter.all false
set_option maxRecDepth 100000
set_option maxHeartbeats 4000000
/-! instructions as words: k12 -/
namespace P
open PySem L2 G
local macro_rules | `(tactic| top_raise0) => `(tactic| first | omega | (unfold mulOk; omega) | ((repeat' (apply And.intro)) <;> first | omega | with_reducible assumption | rfl | (unfold mulOk; omega)))
local macro_rules | `(tactic| k_upd) => `(tactic| first | with_reducible assumption | ((with_reducible refine At.fr0 (by with_reducible assumption) ?_); k_upd) | ((with_reducible refine At.fr1 (by with_reducible assumption) ?_ ?_); (focus k_upd); top_raise) | ((with_reducible refine At.fr2 (by with_reducible assumption) ?_ ?_ ?_); (focus k_upd); (focus top_raise); top_raise))
local macro_rules | `(tactic| k_updF) => `(tactic| first | with_reducible assumption | with_reducible exact At.lt (by with_reducible assumption) | ((with_reducible refine Fr.lt (by with_reducible assumption) ?_); k_updF))
local macro_rules | `(tactic| top_raise) => `(tactic| first | with_reducible assumption | ((with_reducible refine Nw.ne (by with_reducible assumption) ?_); k_updF) | ((with_reducible refine Nw.ne' (by with_reducible assumption) ?_); k_updF) | omega)
local macro_rules | `(tactic| kbo_bools) => `(tactic| simp -dsimp)
local macro_rules | `(tactic| kat_tups) => `(tactic| first | rfl | with_reducible assumption | exact atI_nat rfl)
local macro_rules | `(tactic| tb_rel) => `(tactic| first
   | ((with_reducible refine gd_i ?_ ?_); (focus first | exact ⟨_, lAt_at (by k_upd)⟩ | top_raise0))
   | ((with_reducible apply atK_i); (focus kat_tups))
   | ((with_reducible apply r_ix); (focus k_upd))
   | ((with_reducible apply r_len); (focus k_upd))
   | ((with_reducible apply r_inL); (focus k_upd); (focus (simp; done)))
   | ((with_reducible apply r_chk); (focus k_upd))
   | ((with_reducible refine r_new ?_); intro _ _ _ _ _)
   | ((with_reducible apply r_app); (focus k_upd); (focus top_raise0); intro _ hA _; (try simp only [List.nil_append, List.cons_append] at hA))
   | ((with_reducible apply r_putT); (focus k_upd); (focus top_caught); (focus top_caught); intro _ hA _; (try simp only [Int.reduceToNat, List.set_cons_zero, List.set_cons_succ] at hA))
   | (with_reducible refine ws_for ?_)
   | (with_reducible refine wfor_t1 ?_)
   | (with_reducible refine wfor_t0 ?_)
   | ((with_reducible refine r_eqO ?_ ?_ ?_); (focus (simp [okD, okL]; done)); (focus (simp [dpD, dpL]; done)))
   | ((with_reducible refine r_neO ?_ ?_ ?_); (focus (simp [okD, okL]; done)); (focus (simp [dpD, dpL]; done)))
   | ((with_reducible refine sel_t ?_ ?_); (focus top_raise0))
   | ((with_reducible refine sel_f ?_ ?_); (focus top_raise0)))
local macro_rules | `(tactic| tb_start) => `(tactic| repeat (first | kbo_bools | tb_rel))
local macro_rules | `(tactic| top_caught) => `(tactic| first | omega | (simp; done) | (simp; omega) | (simp; constructor <;> omega))
local macro_rules | `(tactic| top_name) => `(tactic| first | with_reducible assumption | exact Fr.refl | ((with_reducible refine Fr.trans ?_ (by with_reducible assumption)); top_name) | ((with_reducible refine Fr.trans ?_ (Fr.up (by with_reducible assumption))); top_name) | ((with_reducible refine Fr.new ?_ ?_ (by with_reducible assumption)); (focus top_name); allgen_close_more) | ((with_reducible refine Fr.new2 ?_ ?_ (by with_reducible assumption) (by simp)); (focus top_name); allgen_close_more))
local macro_rules | `(tactic| allgen_close_more) => `(tactic| first | with_reducible assumption | ((with_reducible refine Fr.nw (by with_reducible assumption) ?_); allgen_close_more))
local macro_rules | `(tactic| allgen_close2_more) => `(tactic| simp only [fill_some, fill_none, fill_nil, Nat.reduceAdd])
def Deal3 (s : Sto) (j : Nat) : Prop := ∃ a b c : Int, 0 ≤ a ∧ a ≤ 1 ∧ At s j (.lst [.int a, .int b, .int c])
theorem Deal3.lt {s : Sto} {j : Nat} (h : Deal3 s j) : j < s.length := by
  obtain ⟨a, b, c, _, _, h⟩ := h
  exact h.lt
theorem Deal3.fr {js : List Nat} {s t : Sto} {j : Nat} (f : Fr js s t) (h : Deal3 s j) (n : j ∉ js) : Deal3 t j := by
  obtain ⟨a, b, c, h0, h1, h⟩ := h
  exact ⟨a, b, c, h0, h1, h.fr f n⟩
theorem Deal3.fr0 {s t : Sto} {j : Nat} (f : Fr [] s t) (h : Deal3 s j) : Deal3 t j := h.fr f (by simp)
section
variable {s : Sto} {Q : D → Sto → Prop} {E : XP} {u : Lk2 Q E}
theorem w_draw3 {j : Nat} {m : Int} (h : Deal3 s j) (h0 : 0 < m) (h1 : m < 2 ^ 128) (k : ∀ r t, 0 ≤ r → r < m → Deal3 t j → Fr [j] s t → Q (.int r) t) : wp (g_law_draw [.box j, .int m]) s Q E u := by
  obtain ⟨a, b, c, a0, a1, h⟩ := h
  refine u_law_draw ?_
  unfold c_law_draw
  have fin : ∀ t, Fr [j] s t → (∃ b c : Int, At t j (.lst [.int a, .int b, .int c])) → ∀ x, Q (.int (x % m)) t := fun t f ⟨b, c, d⟩ x => k _ _ (mod_lo h0) (mod_hi h0) ⟨a, b, c, a0, a1, d⟩ f
  clear k
  tb_start
  refine sel_i (fun q => ?_) (fun q => ?_)
  · tb_start
    refine sel_i (fun q2 => ?_) (fun q2 => ?_)
    · tb_start
      refine fin _ (by top_name) ⟨_, _, by k_upd⟩ _
    · tb_start
      refine fin _ (by top_name) ⟨_, _, by k_upd⟩ _
  · tb_start
    refine fin _ (by top_name) ⟨_, _, by k_upd⟩ _
theorem atI_ints3 {ns : List Int} {i : Int} (h0 : 0 ≤ i) (h1 : i < ns.length) : ∃ v, atI (ns.map D.int) i = some (.int v) := by
  obtain ⟨n, rfl⟩ := Int.eq_ofNat_of_zero_le h0
  have hn : n < ns.length := by omega
  exact ⟨ns[n], atI_nat (by simp [hn])⟩
theorem w_deal3 {ns : List Int} {k : Int} (h0 : 0 ≤ k) (h1 : k < 1000) (hk : ∀ t j, Deal3 t j → Nw s j → Fr [] s t → Q (.box j) t) : wp (g_law_deal [.lst (ns.map D.int), .int k]) s Q E u := by
  refine u_law_deal ?_
  unfold c_law_deal
  have fin : ∀ t j (a b c : Int), At t j (.lst [.int a, .int b, .int c]) → 0 ≤ a ∧ a ≤ 1 → Nw s j → Fr [] s t → Q (.box j) t := fun t j a b c q ⟨q0, q1⟩ => hk t j ⟨a, b, c, q0, q1, q⟩
  clear hk
  have two : ∀ v : Int, 0 ≤ v % 2 ∧ v % 2 ≤ 1 := fun v => by omega
  tb_start
  by_cases hn : 0 < (ns.length : Int)
  · obtain ⟨v1, e1⟩ := atI_ints3 (ns := ns) (mod_lo (x := k) hn) (mod_hi (x := k) hn)
    obtain ⟨v2, e2⟩ := atI_ints3 (ns := ns) (i := 0) (by omega) (by omega)
    tb_start
    refine sel_i (fun h3 => ?_) (fun h3 => ?_)
    · have h4 : ¬ k < (ns.length : Int) := by omega
      tb_start
      exact fin _ _ _ _ _ (by k_upd) (by omega) (by allgen_close_more) (by top_name)
    · have h4 : k < (ns.length : Int) := by omega
      obtain ⟨v3, e3⟩ := atI_ints3 (ns := ns) h0 h4
      tb_start
      refine sel_i (fun h5 => ?_) (fun h5 => ?_)
      · tb_start
        exact fin _ _ _ _ _ (by k_upd) (two _) (by allgen_close_more) (by top_name)
      · tb_start
        exact fin _ _ _ _ _ (by k_upd) (two _) (by allgen_close_more) (by top_name)
  · have h3 : ¬ k < (ns.length : Int) := by omega
    tb_start
    exact fin _ _ _ _ _ (by k_upd) (by omega) (by allgen_close_more) (by top_name)
end
section
local macro_rules | `(tactic| top_args) => `(tactic| first | with_reducible assumption | ((with_reducible refine Deal3.fr0 (by with_reducible assumption) ?_); top_args))
local macro_rules | `(tactic| tb_rel) => `(tactic| ((with_reducible refine w_draw3 ?_ ?_ ?_ ?_); (focus top_args); (focus top_raise0); (focus top_raise0); intro _ _ _ _ _ _))
local macro_rules | `(tactic| k_updF) => `(tactic| with_reducible exact Deal3.lt (by with_reducible assumption))
variable {s : Sto} {Q : D → Sto → Prop} {E : XP} {u : Lk2 Q E}
/-- an instruction of a sort, by its numbers -/
def insD (x : String) (vs : List Int) : D := .tup (.str x :: vs.map D.int)
inductive InsOk : String → List Int → Prop
  | stop : InsOk "stop" []
  | put {a v : Int} (a0 : 0 ≤ a) (a1 : a < 8) (v0 : 0 ≤ v) (v1 : v < 4294967296) : InsOk "put" [a, v]
  | three {x : String} {a b c : Int} (hx : x = "add" ∨ x = "sub" ∨ x = "and" ∨ x = "or" ∨ x = "xor" ∨ x = "less" ∨ x = "left" ∨ x = "right") (a0 : 0 ≤ a) (a1 : a < 8) (b0 : 0 ≤ b) (b1 : b < 8) (c0 : 0 ≤ c) (c1 : c < 8) : InsOk x [a, b, c]
  | more {x : String} {a b n : Int} (hx : x = "more" ∨ x = "load" ∨ x = "store") (a0 : 0 ≤ a) (a1 : a < 8) (b0 : 0 ≤ b) (b1 : b < 8) (n0 : -131072 ≤ n) (n1 : n < 131072) : InsOk x [a, b, n]
  | place {x : String} {n : Int} (hx : x = "jump" ∨ x = "gate") (n0 : 0 ≤ n) (n1 : n < 262144) : InsOk x [n]
  | jumpif {a n : Int} (a0 : 0 ≤ a) (a1 : a < 8) (n0 : 0 ≤ n) (n1 : n < 262144) : InsOk "jumpif" [a, n]
  | through {b : Int} (b0 : 0 ≤ b) (b1 : b < 8) : InsOk "through" [b]
  | two {x : String} {a b : Int} (hx : x = "fit" ∨ x = "aim") (a0 : 0 ≤ a) (a1 : a < 8) (b0 : 0 ≤ b) (b1 : b < 8) : InsOk x [a, b]
theorem w_instruction {j : Nat} (h : Deal3 s j) (k : ∀ x vs t, InsOk x vs → Deal3 t j → Fr [j] s t → Q (insD x vs) t) : wp (g_law_instruction [.box j, .int 8, .int 262144]) s Q E u := by
  refine u_law_instruction ?_
  unfold c_law_instruction
  tb_start
  refine r_addL (by k_upd) (by k_upd) (by decide) ?_
  tb_start
  refine atK_all (by omega) (by top_caught) fun x hx => ?_
  simp only [List.cons_append, List.nil_append, List.mem_cons, List.not_mem_nil, or_false] at hx
  tb_start
  rename_i r t1 r0 r1 _ _ a t2 a0 a1 _ _ b t3 b0 b1 d3 f3
  rcases hx with rfl | rfl | rfl | rfl | rfl | rfl | rfl | rfl | rfl | rfl | rfl | rfl | rfl | rfl | rfl | rfl | rfl | rfl | rfl
  · tb_start
    exact k "stop" [] _ .stop (by top_args) (by top_name)
  · tb_start
    refine atK_int (fun n => 0 ≤ n ∧ n < 4294967296) (by top_caught) (by top_caught) (by top_caught) fun n ⟨n0, n1⟩ => ?_
    tb_start
    exact k "put" [_, _] _ (.put a0 a1 n0 n1) (by top_args) (by top_name)
  · tb_start
    exact k "add" [_, _, _] _ (.three (by simp) a0 a1 b0 b1 (by omega) (by omega)) (by top_args) (by top_name)
  · tb_start
    exact k "sub" [_, _, _] _ (.three (by simp) a0 a1 b0 b1 (by omega) (by omega)) (by top_args) (by top_name)
  · tb_start
    exact k "and" [_, _, _] _ (.three (by simp) a0 a1 b0 b1 (by omega) (by omega)) (by top_args) (by top_name)
  · tb_start
    exact k "or" [_, _, _] _ (.three (by simp) a0 a1 b0 b1 (by omega) (by omega)) (by top_args) (by top_name)
  · tb_start
    exact k "xor" [_, _, _] _ (.three (by simp) a0 a1 b0 b1 (by omega) (by omega)) (by top_args) (by top_name)
  · tb_start
    exact k "less" [_, _, _] _ (.three (by simp) a0 a1 b0 b1 (by omega) (by omega)) (by top_args) (by top_name)
  · tb_start
    exact k "left" [_, _, _] _ (.three (by simp) a0 a1 b0 b1 (by omega) (by omega)) (by top_args) (by top_name)
  · tb_start
    exact k "right" [_, _, _] _ (.three (by simp) a0 a1 b0 b1 (by omega) (by omega)) (by top_args) (by top_name)
  · tb_start
    refine atK_int (fun n => -131072 ≤ n ∧ n < 131072) (by top_caught) (by top_caught) (by top_caught) fun n ⟨n0, n1⟩ => ?_
    tb_start
    exact k "more" [_, _, _] _ (.more (by simp) a0 a1 b0 b1 n0 n1) (by top_args) (by top_name)
  · tb_start
    refine atK_int (fun n => -131072 ≤ n ∧ n < 131072) (by top_caught) (by top_caught) (by top_caught) fun n ⟨n0, n1⟩ => ?_
    tb_start
    exact k "load" [_, _, _] _ (.more (by simp) a0 a1 b0 b1 n0 n1) (by top_args) (by top_name)
  · tb_start
    refine atK_int (fun n => -131072 ≤ n ∧ n < 131072) (by top_caught) (by top_caught) (by top_caught) fun n ⟨n0, n1⟩ => ?_
    tb_start
    exact k "store" [_, _, _] _ (.more (by simp) a0 a1 b0 b1 n0 n1) (by top_args) (by top_name)
  · tb_start
    exact k "jump" [_] _ (.place (by simp) (by omega) (by omega)) (by top_args) (by top_name)
  · tb_start
    exact k "jumpif" [_, _] _ (.jumpif a0 a1 (by omega) (by omega)) (by top_args) (by top_name)
  · tb_start
    exact k "through" [_] _ (.through b0 b1) (by top_args) (by top_name)
  · tb_start
    exact k "fit" [_, _] _ (.two (by simp) a0 a1 b0 b1) (by top_args) (by top_name)
  · tb_start
    exact k "aim" [_, _] _ (.two (by simp) a0 a1 b0 b1) (by top_args) (by top_name)
  · tb_start
    exact k "gate" [_] _ (.place (by simp) (by omega) (by omega)) (by top_args) (by top_name)
end
end P

set_option Elab.async false
set_option linter.all false
set_option maxRecDepth 100000
set_option maxHeartbeats 4000000
/-! k12: an instruction's words -/
namespace P
open PySem L2 G
local macro_rules | `(tactic| top_raise0) => `(tactic| first | omega | (unfold mulOk; omega) | ((repeat' (apply And.intro)) <;> first | omega | with_reducible assumption | rfl | (unfold mulOk; omega)))
local macro_rules | `(tactic| k_upd) => `(tactic| first | with_reducible assumption | ((with_reducible refine At.fr0 (by with_reducible assumption) ?_); k_upd) | ((with_reducible refine At.fr1 (by with_reducible assumption) ?_ ?_); (focus k_upd); top_raise) | ((with_reducible refine At.fr2 (by with_reducible assumption) ?_ ?_ ?_); (focus k_upd); (focus top_raise); top_raise))
local macro_rules | `(tactic| k_updF) => `(tactic| first | with_reducible assumption | with_reducible exact At.lt (by with_reducible assumption) | ((with_reducible refine Fr.lt (by with_reducible assumption) ?_); k_updF))
local macro_rules | `(tactic| top_raise) => `(tactic| first | with_reducible assumption | ((with_reducible refine Nw.ne (by with_reducible assumption) ?_); k_updF) | ((with_reducible refine Nw.ne' (by with_reducible assumption) ?_); k_updF) | omega)
local macro_rules | `(tactic| kbo_bools) => `(tactic| simp -dsimp)
local macro_rules | `(tactic| kat_tups) => `(tactic| first | rfl | with_reducible assumption | exact atI_nat rfl)
local macro_rules | `(tactic| tb_rel) => `(tactic| first
   | ((with_reducible refine gd_i ?_ ?_); (focus first | exact ⟨_, lAt_at (by k_upd)⟩ | top_raise0))
   | ((with_reducible apply atK_i); (focus kat_tups))
   | ((with_reducible apply r_ix); (focus k_upd))
   | ((with_reducible apply r_len); (focus k_upd))
   | ((with_reducible apply r_inL); (focus k_upd); (focus (simp; done)))
   | ((with_reducible apply r_chk); (focus k_upd))
   | ((with_reducible refine r_new ?_); intro _ _ _ _ _)
   | ((with_reducible apply r_app); (focus k_upd); (focus top_raise0); intro _ hA _; (try simp only [List.nil_append, List.cons_append] at hA))
   | ((with_reducible apply r_putT); (focus k_upd); (focus top_caught); (focus top_caught); intro _ hA _; (try simp only [Int.reduceToNat, List.set_cons_zero, List.set_cons_succ] at hA))
   | (with_reducible refine ws_for ?_)
   | (with_reducible refine wfor_t1 ?_)
   | (with_reducible refine wfor_t0 ?_)
   | ((with_reducible refine r_eqO ?_ ?_ ?_); (focus (simp [okD, okL]; done)); (focus (simp [dpD, dpL]; done)))
   | ((with_reducible refine r_neO ?_ ?_ ?_); (focus (simp [okD, okL]; done)); (focus (simp [dpD, dpL]; done)))
   | ((with_reducible refine sel_t ?_ ?_); (focus top_raise0))
   | ((with_reducible refine sel_f ?_ ?_); (focus top_raise0)))
local macro_rules | `(tactic| tb_start) => `(tactic| repeat (first | kbo_bools | tb_rel))
local macro_rules | `(tactic| top_caught) => `(tactic| first | omega | (simp; done) | (simp; omega) | (simp; constructor <;> omega))
local macro_rules | `(tactic| top_name) => `(tactic| first | with_reducible assumption | exact Fr.refl | ((with_reducible refine Fr.trans ?_ (by with_reducible assumption)); top_name) | ((with_reducible refine Fr.trans ?_ (Fr.up (by with_reducible assumption))); top_name) | ((with_reducible refine Fr.new ?_ ?_ (by with_reducible assumption)); (focus top_name); allgen_close_more) | ((with_reducible refine Fr.new2 ?_ ?_ (by with_reducible assumption) (by simp)); (focus top_name); allgen_close_more))
local macro_rules | `(tactic| allgen_close_more) => `(tactic| first | with_reducible assumption | ((with_reducible refine Fr.nw (by with_reducible assumption) ?_); allgen_close_more))
local macro_rules | `(tactic| allgen_close2_more) => `(tactic| simp only [fill_some, fill_none, fill_nil, Nat.reduceAdd])
local macro_rules | `(tactic| top_args) => `(tactic| first | with_reducible assumption | ((with_reducible refine Deal3.fr0 (by with_reducible assumption) ?_); top_args))
local macro_rules | `(tactic| tb_rel) => `(tactic| ((with_reducible refine w_draw3 ?_ ?_ ?_ ?_); (focus top_args); (focus top_raise0); (focus top_raise0); intro _ _ _ _ _ _))
local macro_rules | `(tactic| k_updF) => `(tactic| with_reducible exact Deal3.lt (by with_reducible assumption))
def kod (x : String) : Int := if x = "stop" then 0 else if x = "put" then 1 else if x = "add" then 2 else if x = "sub" then 3 else if x = "and" then 4 else if x = "or" then 5 else if x = "xor" then 6 else if x = "less" then 7
  else if x = "left" then 8 else if x = "right" then 9 else if x = "more" then 10 else if x = "load" then 11 else if x = "store" then 12 else if x = "jump" then 13 else if x = "jumpif" then 14 else if x = "through" then 15 else if x = "fit" then 16
  else if x = "aim" then 17 else 18
def wds (x : String) (vs : List Int) : List Int := match vs with
  | [] => [0]
  | [p] => if x = "through" then [kod x * 134217728 + p * 2097152] else [kod x * 134217728 + p]
  | [p, q] => if x = "put" then [134217728 + p * 16777216, q] else if x = "jumpif" then [kod x * 134217728 + p * 16777216 + q] else [kod x * 134217728 + p * 16777216 + q * 2097152]
  | [p, q, r] => if x = "more" ∨ x = "load" ∨ x = "store" then [kod x * 134217728 + p * 16777216 + q * 2097152 + r % 262144] else [kod x * 134217728 + p * 16777216 + q * 2097152 + r * 262144]
  | _ => []
section
variable {s : Sto} {Q : D → Sto → Prop} {E : XP} {u : Lk2 Q E}
theorem w_rest12 {v b : Int} (h0 : 0 ≤ b) (h1 : b ≤ 1000) (k : Q (.int (v % p2 b)) s) : wp (g_rest [.int v, .int b]) s Q E u := by
  refine u_rest ?_
  unfold c_rest
  tb_start
theorem w_words_of {x : String} {vs : List Int} (h : InsOk x vs) (k : ∀ t b, At t b (.lst ((wds x vs).map D.int)) → Nw s b → Fr [] s t → Q (.box b) t) : wp (g_words_of [insD x vs]) s Q E u := by
  refine u_words_of ?_
  unfold c_words_of insD
  have fin : ∀ t b (l : List D), At t b (.lst l) → l = (wds x vs).map D.int → Nw s b → Fr [] s t → Q (.box b) t := fun t b l q e => by subst e; exact k t b q
  clear k
  cases h with
  --@cases words_of
  | stop =>
    simp only [List.map_cons, List.map_nil]
    tb_start
    refine atT_i (d := .int 0) (by rfl) ?_
    tb_start
    refine u_fields_of ?_
    unfold c_fields_of
    tb_start
    refine gd_i ⟨_, rfl⟩ ?_
    refine wfor_k [] (fun _ => rfl) ?_
    tb_start
    exact fin _ _ _ (by k_upd) (by simp [wds, kod]) (by allgen_close_more) (by top_name)
  | @put a v a0 a1 v0 v1 =>
    simp only [List.map_cons, List.map_nil]
    tb_start
    refine atT_i (d := .int 1) (by rfl) ?_
    tb_start
    refine u_fields_of ?_
    unfold c_fields_of
    tb_start
    refine gd_i ⟨_, rfl⟩ ?_
    refine wfor_k [.tup [.str "a", .int a]] (fun _ => rfl) ?_
    tb_start
    refine w_rest12 (by decide) (by decide) ?_
    tb_start
    exact fin _ _ _ (by k_upd) (by simp [wds, kod]; omega) (by allgen_close_more) (by top_name)
  | @three x a b c hx a0 a1 b0 b1 c0 c1 =>
    simp only [List.map_cons, List.map_nil]
    rcases hx with rfl | rfl | rfl | rfl | rfl | rfl | rfl | rfl
    · tb_start
      refine atT_i (d := .int 2) (by rfl) ?_
      tb_start
      refine u_fields_of ?_
      unfold c_fields_of
      tb_start
      refine gd_i ⟨_, rfl⟩ ?_
      refine wfor_k [.tup [.str "a", .int a], .tup [.str "b", .int b], .tup [.str "c", .int c]] (fun _ => rfl) ?_
      tb_start
      refine w_rest12 (by decide) (by decide) ?_
      tb_start
      refine w_rest12 (by decide) (by decide) ?_
      tb_start
      refine w_rest12 (by decide) (by decide) ?_
      tb_start
      exact fin _ _ _ (by k_upd) (by simp [wds, kod]; omega) (by allgen_close_more) (by top_name)
    · tb_start
      refine atT_i (d := .int 3) (by rfl) ?_
      tb_start
      refine u_fields_of ?_
      unfold c_fields_of
      tb_start
      refine gd_i ⟨_, rfl⟩ ?_
      refine wfor_k [.tup [.str "a", .int a], .tup [.str "b", .int b], .tup [.str "c", .int c]] (fun _ => rfl) ?_
      tb_start
      refine w_rest12 (by decide) (by decide) ?_
      tb_start
      refine w_rest12 (by decide) (by decide) ?_
      tb_start
      refine w_rest12 (by decide) (by decide) ?_
      tb_start
      exact fin _ _ _ (by k_upd) (by simp [wds, kod]; omega) (by allgen_close_more) (by top_name)
    · tb_start
      refine atT_i (d := .int 4) (by rfl) ?_
      tb_start
      refine u_fields_of ?_
      unfold c_fields_of
      tb_start
      refine gd_i ⟨_, rfl⟩ ?_
      refine wfor_k [.tup [.str "a", .int a], .tup [.str "b", .int b], .tup [.str "c", .int c]] (fun _ => rfl) ?_
      tb_start
      refine w_rest12 (by decide) (by decide) ?_
      tb_start
      refine w_rest12 (by decide) (by decide) ?_
      tb_start
      refine w_rest12 (by decide) (by decide) ?_
      tb_start
      exact fin _ _ _ (by k_upd) (by simp [wds, kod]; omega) (by allgen_close_more) (by top_name)
    · tb_start
      refine atT_i (d := .int 5) (by rfl) ?_
      tb_start
      refine u_fields_of ?_
      unfold c_fields_of
      tb_start
      refine gd_i ⟨_, rfl⟩ ?_
      refine wfor_k [.tup [.str "a", .int a], .tup [.str "b", .int b], .tup [.str "c", .int c]] (fun _ => rfl) ?_
      tb_start
      refine w_rest12 (by decide) (by decide) ?_
      tb_start
      refine w_rest12 (by decide) (by decide) ?_
      tb_start
      refine w_rest12 (by decide) (by decide) ?_
      tb_start
      exact fin _ _ _ (by k_upd) (by simp [wds, kod]; omega) (by allgen_close_more) (by top_name)
    · tb_start
      refine atT_i (d := .int 6) (by rfl) ?_
      tb_start
      refine u_fields_of ?_
      unfold c_fields_of
      tb_start
      refine gd_i ⟨_, rfl⟩ ?_
      refine wfor_k [.tup [.str "a", .int a], .tup [.str "b", .int b], .tup [.str "c", .int c]] (fun _ => rfl) ?_
      tb_start
      refine w_rest12 (by decide) (by decide) ?_
      tb_start
      refine w_rest12 (by decide) (by decide) ?_
      tb_start
      refine w_rest12 (by decide) (by decide) ?_
      tb_start
      exact fin _ _ _ (by k_upd) (by simp [wds, kod]; omega) (by allgen_close_more) (by top_name)
    · tb_start
      refine atT_i (d := .int 7) (by rfl) ?_
      tb_start
      refine u_fields_of ?_
      unfold c_fields_of
      tb_start
      refine gd_i ⟨_, rfl⟩ ?_
      refine wfor_k [.tup [.str "a", .int a], .tup [.str "b", .int b], .tup [.str "c", .int c]] (fun _ => rfl) ?_
      tb_start
      refine w_rest12 (by decide) (by decide) ?_
      tb_start
      refine w_rest12 (by decide) (by decide) ?_
      tb_start
      refine w_rest12 (by decide) (by decide) ?_
      tb_start
      exact fin _ _ _ (by k_upd) (by simp [wds, kod]; omega) (by allgen_close_more) (by top_name)
    · tb_start
      refine atT_i (d := .int 8) (by rfl) ?_
      tb_start
      refine u_fields_of ?_
      unfold c_fields_of
      tb_start
      refine gd_i ⟨_, rfl⟩ ?_
      refine wfor_k [.tup [.str "a", .int a], .tup [.str "b", .int b], .tup [.str "c", .int c]] (fun _ => rfl) ?_
      tb_start
      refine w_rest12 (by decide) (by decide) ?_
      tb_start
      refine w_rest12 (by decide) (by decide) ?_
      tb_start
      refine w_rest12 (by decide) (by decide) ?_
      tb_start
      exact fin _ _ _ (by k_upd) (by simp [wds, kod]; omega) (by allgen_close_more) (by top_name)
    · tb_start
      refine atT_i (d := .int 9) (by rfl) ?_
      tb_start
      refine u_fields_of ?_
      unfold c_fields_of
      tb_start
      refine gd_i ⟨_, rfl⟩ ?_
      refine wfor_k [.tup [.str "a", .int a], .tup [.str "b", .int b], .tup [.str "c", .int c]] (fun _ => rfl) ?_
      tb_start
      refine w_rest12 (by decide) (by decide) ?_
      tb_start
      refine w_rest12 (by decide) (by decide) ?_
      tb_start
      refine w_rest12 (by decide) (by decide) ?_
      tb_start
      exact fin _ _ _ (by k_upd) (by simp [wds, kod]; omega) (by allgen_close_more) (by top_name)
  | @more x a b n hx a0 a1 b0 b1 n0 n1 =>
    simp only [List.map_cons, List.map_nil]
    rcases hx with rfl | rfl | rfl
    · tb_start
      refine atT_i (d := .int 10) (by rfl) ?_
      tb_start
      refine u_fields_of ?_
      unfold c_fields_of
      tb_start
      refine gd_i ⟨_, rfl⟩ ?_
      refine wfor_k [.tup [.str "a", .int a], .tup [.str "b", .int b], .tup [.str "n", .int n]] (fun _ => rfl) ?_
      tb_start
      refine w_rest12 (by decide) (by decide) ?_
      tb_start
      refine w_rest12 (by decide) (by decide) ?_
      tb_start
      refine w_rest12 (by decide) (by decide) ?_
      tb_start
      exact fin _ _ _ (by k_upd) (by simp [wds, kod]; omega) (by allgen_close_more) (by top_name)
    · tb_start
      refine atT_i (d := .int 11) (by rfl) ?_
      tb_start
      refine u_fields_of ?_
      unfold c_fields_of
      tb_start
      refine gd_i ⟨_, rfl⟩ ?_
      refine wfor_k [.tup [.str "a", .int a], .tup [.str "b", .int b], .tup [.str "n", .int n]] (fun _ => rfl) ?_
      tb_start
      refine w_rest12 (by decide) (by decide) ?_
      tb_start
      refine w_rest12 (by decide) (by decide) ?_
      tb_start
      refine w_rest12 (by decide) (by decide) ?_
      tb_start
      exact fin _ _ _ (by k_upd) (by simp [wds, kod]; omega) (by allgen_close_more) (by top_name)
    · tb_start
      refine atT_i (d := .int 12) (by rfl) ?_
      tb_start
      refine u_fields_of ?_
      unfold c_fields_of
      tb_start
      refine gd_i ⟨_, rfl⟩ ?_
      refine wfor_k [.tup [.str "a", .int a], .tup [.str "b", .int b], .tup [.str "n", .int n]] (fun _ => rfl) ?_
      tb_start
      refine w_rest12 (by decide) (by decide) ?_
      tb_start
      refine w_rest12 (by decide) (by decide) ?_
      tb_start
      refine w_rest12 (by decide) (by decide) ?_
      tb_start
      exact fin _ _ _ (by k_upd) (by simp [wds, kod]; omega) (by allgen_close_more) (by top_name)
  | @place x n hx n0 n1 =>
    simp only [List.map_cons, List.map_nil]
    rcases hx with rfl | rfl
    · tb_start
      refine atT_i (d := .int 13) (by rfl) ?_
      tb_start
      refine u_fields_of ?_
      unfold c_fields_of
      tb_start
      refine gd_i ⟨_, rfl⟩ ?_
      refine wfor_k [.tup [.str "n", .int n]] (fun _ => rfl) ?_
      tb_start
      refine w_rest12 (by decide) (by decide) ?_
      tb_start
      exact fin _ _ _ (by k_upd) (by simp [wds, kod]; omega) (by allgen_close_more) (by top_name)
    · tb_start
      refine atT_i (d := .int 18) (by rfl) ?_
      tb_start
      refine u_fields_of ?_
      unfold c_fields_of
      tb_start
      refine gd_i ⟨_, rfl⟩ ?_
      refine wfor_k [.tup [.str "n", .int n]] (fun _ => rfl) ?_
      tb_start
      refine w_rest12 (by decide) (by decide) ?_
      tb_start
      exact fin _ _ _ (by k_upd) (by simp [wds, kod]; omega) (by allgen_close_more) (by top_name)
  | @jumpif a n a0 a1 n0 n1 =>
    simp only [List.map_cons, List.map_nil]
    tb_start
    refine atT_i (d := .int 14) (by rfl) ?_
    tb_start
    refine u_fields_of ?_
    unfold c_fields_of
    tb_start
    refine gd_i ⟨_, rfl⟩ ?_
    refine wfor_k [.tup [.str "a", .int a], .tup [.str "n", .int n]] (fun _ => rfl) ?_
    tb_start
    refine w_rest12 (by decide) (by decide) ?_
    tb_start
    refine w_rest12 (by decide) (by decide) ?_
    tb_start
    exact fin _ _ _ (by k_upd) (by simp [wds, kod]; omega) (by allgen_close_more) (by top_name)
  | @through b b0 b1 =>
    simp only [List.map_cons, List.map_nil]
    tb_start
    refine atT_i (d := .int 15) (by rfl) ?_
    tb_start
    refine u_fields_of ?_
    unfold c_fields_of
    tb_start
    refine gd_i ⟨_, rfl⟩ ?_
    refine wfor_k [.tup [.str "b", .int b]] (fun _ => rfl) ?_
    tb_start
    refine w_rest12 (by decide) (by decide) ?_
    tb_start
    exact fin _ _ _ (by k_upd) (by simp [wds, kod]; omega) (by allgen_close_more) (by top_name)
  | @two x a b hx a0 a1 b0 b1 =>
    simp only [List.map_cons, List.map_nil]
    rcases hx with rfl | rfl
    · tb_start
      refine atT_i (d := .int 16) (by rfl) ?_
      tb_start
      refine u_fields_of ?_
      unfold c_fields_of
      tb_start
      refine gd_i ⟨_, rfl⟩ ?_
      refine wfor_k [.tup [.str "a", .int a], .tup [.str "b", .int b]] (fun _ => rfl) ?_
      tb_start
      refine w_rest12 (by decide) (by decide) ?_
      tb_start
      refine w_rest12 (by decide) (by decide) ?_
      tb_start
      exact fin _ _ _ (by k_upd) (by simp [wds, kod]; omega) (by allgen_close_more) (by top_name)
    · tb_start
      refine atT_i (d := .int 17) (by rfl) ?_
      tb_start
      refine u_fields_of ?_
      unfold c_fields_of
      tb_start
      refine gd_i ⟨_, rfl⟩ ?_
      refine wfor_k [.tup [.str "a", .int a], .tup [.str "b", .int b]] (fun _ => rfl) ?_
      tb_start
      refine w_rest12 (by decide) (by decide) ?_
      tb_start
      refine w_rest12 (by decide) (by decide) ?_
      tb_start
      exact fin _ _ _ (by k_upd) (by simp [wds, kod]; omega) (by allgen_close_more) (by top_name)
  --@end
end
end P

set_option Elab.async false
set_option linter.all false
set_option maxRecDepth 100000
set_option maxHeartbeats 4000000
/-! k12: an instruction's words by the law -/
namespace P
open PySem L2 G
local macro_rules | `(tactic| top_raise0) => `(tactic| first | omega | (unfold mulOk; omega) | ((repeat' (apply And.intro)) <;> first | omega | with_reducible assumption | rfl | (unfold mulOk; omega)))
local macro_rules | `(tactic| k_upd) => `(tactic| first | with_reducible assumption | ((with_reducible refine At.fr0 (by with_reducible assumption) ?_); k_upd) | ((with_reducible refine At.fr1 (by with_reducible assumption) ?_ ?_); (focus k_upd); top_raise) | ((with_reducible refine At.fr2 (by with_reducible assumption) ?_ ?_ ?_); (focus k_upd); (focus top_raise); top_raise))
local macro_rules | `(tactic| k_updF) => `(tactic| first | with_reducible assumption | with_reducible exact At.lt (by with_reducible assumption) | ((with_reducible refine Fr.lt (by with_reducible assumption) ?_); k_updF))
local macro_rules | `(tactic| top_raise) => `(tactic| first | with_reducible assumption | ((with_reducible refine Nw.ne (by with_reducible assumption) ?_); k_updF) | ((with_reducible refine Nw.ne' (by with_reducible assumption) ?_); k_updF) | omega)
local macro_rules | `(tactic| kbo_bools) => `(tactic| simp -dsimp)
local macro_rules | `(tactic| kat_tups) => `(tactic| first | rfl | with_reducible assumption | exact atI_nat rfl)
local macro_rules | `(tactic| tb_rel) => `(tactic| first
   | ((with_reducible refine gd_i ?_ ?_); (focus first | exact ⟨_, lAt_at (by k_upd)⟩ | top_raise0))
   | ((with_reducible apply atK_i); (focus kat_tups))
   | ((with_reducible apply r_ix); (focus k_upd))
   | ((with_reducible apply r_len); (focus k_upd))
   | ((with_reducible apply r_inL); (focus k_upd); (focus (simp; done)))
   | ((with_reducible apply r_chk); (focus k_upd))
   | ((with_reducible refine r_new ?_); intro _ _ _ _ _)
   | ((with_reducible apply r_app); (focus k_upd); (focus top_raise0); intro _ hA _; (try simp only [List.nil_append, List.cons_append] at hA))
   | ((with_reducible apply r_putT); (focus k_upd); (focus top_caught); (focus top_caught); intro _ hA _; (try simp only [Int.reduceToNat, List.set_cons_zero, List.set_cons_succ] at hA))
   | (with_reducible refine ws_for ?_)
   | (with_reducible refine wfor_t1 ?_)
   | (with_reducible refine wfor_t0 ?_)
   | ((with_reducible refine r_eqO ?_ ?_ ?_); (focus (simp [okD, okL]; done)); (focus (simp [dpD, dpL]; done)))
   | ((with_reducible refine r_neO ?_ ?_ ?_); (focus (simp [okD, okL]; done)); (focus (simp [dpD, dpL]; done)))
   | ((with_reducible refine sel_t ?_ ?_); (focus top_raise0))
   | ((with_reducible refine sel_f ?_ ?_); (focus top_raise0)))
local macro_rules | `(tactic| tb_start) => `(tactic| repeat (first | kbo_bools | tb_rel))
local macro_rules | `(tactic| top_caught) => `(tactic| first | omega | (simp; done) | (simp; omega) | (simp; constructor <;> omega))
local macro_rules | `(tactic| top_name) => `(tactic| first | with_reducible assumption | exact Fr.refl | ((with_reducible refine Fr.trans ?_ (by with_reducible assumption)); top_name) | ((with_reducible refine Fr.trans ?_ (Fr.up (by with_reducible assumption))); top_name) | ((with_reducible refine Fr.new ?_ ?_ (by with_reducible assumption)); (focus top_name); allgen_close_more) | ((with_reducible refine Fr.new2 ?_ ?_ (by with_reducible assumption) (by simp)); (focus top_name); allgen_close_more))
local macro_rules | `(tactic| allgen_close_more) => `(tactic| first | with_reducible assumption | ((with_reducible refine Fr.nw (by with_reducible assumption) ?_); allgen_close_more))
local macro_rules | `(tactic| allgen_close2_more) => `(tactic| simp only [fill_some, fill_none, fill_nil, Nat.reduceAdd])
local macro_rules | `(tactic| top_args) => `(tactic| first | with_reducible assumption | ((with_reducible refine Deal3.fr0 (by with_reducible assumption) ?_); top_args))
local macro_rules | `(tactic| tb_rel) => `(tactic| ((with_reducible refine w_draw3 ?_ ?_ ?_ ?_); (focus top_args); (focus top_raise0); (focus top_raise0); intro _ _ _ _ _ _))
local macro_rules | `(tactic| k_updF) => `(tactic| with_reducible exact Deal3.lt (by with_reducible assumption))
/-- a loop over known parts, where what is walked stays as it is -/
def wforG (p : Sto → Prop) (tg : Tg) (b : CS) (N : En → Sto → Prop) (Rt : D → Sto → Prop) (E : XP) : List D → En → Sto → Prop
  | [], e, s => N e s
  | x :: r, e, s => withT tg x e fun e' => ws b e' s (fun e2 u => gd (p u) (wforG p tg b N Rt E r e2 u)) Rt N (fun e2 u => gd (p u) (wforG p tg b N Rt E r e2 u)) E
section
variable {p : Sto → Prop} {tg : Tg} {b : CS} {N : En → Sto → Prop} {Rt : D → Sto → Prop} {E : XP} {e : En} {s : Sto}
@[simp ↓] theorem wforG_nil : wforG p tg b N Rt E [] e s = N e s := propext Iff.rfl
@[simp ↓] theorem wforG_cons {x : D} {r : List D} : wforG p tg b N Rt E (x :: r) e s = withT tg x e fun e' => ws b e' s (fun e2 u => gd (p u) (wforG p tg b N Rt E r e2 u)) Rt N (fun e2 u => gd (p u) (wforG p tg b N Rt E r e2 u)) E := propext Iff.rfl
theorem wfor_g {w : Src} {B C : En → Sto → Prop} {v : Lk5 N Rt B C E} (all : List D) (hw : w.items s = some all) (h : wforG (fun t => w.items t = some all) tg b N Rt E all e s) : wfor w tg b e s N Rt B C E v := by
  refine ⟨all, fun i e t => w.items t = some all ∧ wforG (fun t => w.items t = some all) tg b N Rt E (all.drop i) e t, hw, ⟨hw, h⟩, fun _ _ t k => k.1, fun i x e t hx k => ?_, fun e t k => ?_⟩
  · have hlt : i < all.length := (List.getElem?_eq_some_iff.mp hx).1
    have e1 : all.drop i = x :: all.drop (i + 1) := by
      rw [List.drop_eq_getElem_cons hlt]
      rw [List.getElem?_eq_getElem hlt] at hx
      cases hx
      rfl
    have k := k.2
    rw [e1] at k
    exact k
  · have k := k.2
    rw [List.drop_length] at k
    exact k
end
theorem items_zip_tb {t : Sto} {xs ys : List D} {j : Nat} (h : At t j (.lst ys)) : Src.items t (.zip (.tup xs) (.box j)) = some (zipD xs ys) := by
  show (match some xs, lAt t j with | some xs, some ys => some (zipD xs ys) | _, _ => none) = _
  rw [lAt_at h]
section
variable {s : Sto} {Q : D → Sto → Prop} {E : XP} {u : Lk2 Q E}
theorem w_lwords {x : String} {vs : List Int} (h : InsOk x vs) (k : ∀ t b, At t b (.lst ((wds x vs).map D.int)) → Nw s b → Fr [] s t → Q (.box b) t) : wp (g_law_words [insD x vs]) s Q E u := by
  refine u_law_words ?_
  unfold c_law_words insD
  have fin : ∀ t b (l : List D), At t b (.lst l) → l = (wds x vs).map D.int → Nw s b → Fr [] s t → Q (.box b) t := fun t b l q e => by subst e; exact k t b q
  clear k
  cases h with
  --@cases lwords
  | stop =>
    simp only [List.map_cons, List.map_nil]
    tb_start
    refine r_addL (by k_upd) (by k_upd) (by decide) ?_
    tb_start
    refine r_index (k := 0) (by k_upd) (by decide) (by decide) ?_
    tb_start
    rename_i t9 jl hl _ _
    have hi : Src.items t9 (.zip (.tup (cutD [D.str "stop"] (some 1) none)) (.box jl)) = some [] := items_zip_tb hl
    refine wfor_g [] hi ?_
    tb_start
    exact fin _ _ _ (by k_upd) (by simp [wds, kod]) (by allgen_close_more) (by top_name)
  | @put a v a0 a1 v0 v1 =>
    simp only [List.map_cons, List.map_nil]
    tb_start
    refine r_addL (by k_upd) (by k_upd) (by decide) ?_
    tb_start
    refine r_index (k := 1) (by k_upd) (by decide) (by decide) ?_
    tb_start
    exact fin _ _ _ (by k_upd) (by simp [wds, kod]) (by allgen_close_more) (by top_name)
  | @three x a b c hx a0 a1 b0 b1 c0 c1 =>
    simp only [List.map_cons, List.map_nil]
    rcases hx with rfl | rfl | rfl | rfl | rfl | rfl | rfl | rfl
    · tb_start
      refine r_addL (by k_upd) (by k_upd) (by decide) ?_
      tb_start
      refine r_index (k := 2) (by k_upd) (by decide) (by decide) ?_
      tb_start
      rename_i t9 jl hl _ _
      have hi : Src.items t9 (.zip (.tup (cutD [D.str "add", .int a, .int b, .int c] (some 1) none)) (.box jl)) = some [.tup [.int a, .int 16777216], .tup [.int b, .int 2097152], .tup [.int c, .int 262144]] := items_zip_tb hl
      refine wfor_g [.tup [.int a, .int 16777216], .tup [.int b, .int 2097152], .tup [.int c, .int 262144]] hi ?_
      tb_start
      exact fin _ _ _ (by k_upd) (by simp [wds, kod]) (by allgen_close_more) (by top_name)
    · tb_start
      refine r_addL (by k_upd) (by k_upd) (by decide) ?_
      tb_start
      refine r_index (k := 3) (by k_upd) (by decide) (by decide) ?_
      tb_start
      rename_i t9 jl hl _ _
      have hi : Src.items t9 (.zip (.tup (cutD [D.str "sub", .int a, .int b, .int c] (some 1) none)) (.box jl)) = some [.tup [.int a, .int 16777216], .tup [.int b, .int 2097152], .tup [.int c, .int 262144]] := items_zip_tb hl
      refine wfor_g [.tup [.int a, .int 16777216], .tup [.int b, .int 2097152], .tup [.int c, .int 262144]] hi ?_
      tb_start
      exact fin _ _ _ (by k_upd) (by simp [wds, kod]) (by allgen_close_more) (by top_name)
    · tb_start
      refine r_addL (by k_upd) (by k_upd) (by decide) ?_
      tb_start
      refine r_index (k := 4) (by k_upd) (by decide) (by decide) ?_
      tb_start
      rename_i t9 jl hl _ _
      have hi : Src.items t9 (.zip (.tup (cutD [D.str "and", .int a, .int b, .int c] (some 1) none)) (.box jl)) = some [.tup [.int a, .int 16777216], .tup [.int b, .int 2097152], .tup [.int c, .int 262144]] := items_zip_tb hl
      refine wfor_g [.tup [.int a, .int 16777216], .tup [.int b, .int 2097152], .tup [.int c, .int 262144]] hi ?_
      tb_start
      exact fin _ _ _ (by k_upd) (by simp [wds, kod]) (by allgen_close_more) (by top_name)
    · tb_start
      refine r_addL (by k_upd) (by k_upd) (by decide) ?_
      tb_start
      refine r_index (k := 5) (by k_upd) (by decide) (by decide) ?_
      tb_start
      rename_i t9 jl hl _ _
      have hi : Src.items t9 (.zip (.tup (cutD [D.str "or", .int a, .int b, .int c] (some 1) none)) (.box jl)) = some [.tup [.int a, .int 16777216], .tup [.int b, .int 2097152], .tup [.int c, .int 262144]] := items_zip_tb hl
      refine wfor_g [.tup [.int a, .int 16777216], .tup [.int b, .int 2097152], .tup [.int c, .int 262144]] hi ?_
      tb_start
      exact fin _ _ _ (by k_upd) (by simp [wds, kod]) (by allgen_close_more) (by top_name)
    · tb_start
      refine r_addL (by k_upd) (by k_upd) (by decide) ?_
      tb_start
      refine r_index (k := 6) (by k_upd) (by decide) (by decide) ?_
      tb_start
      rename_i t9 jl hl _ _
      have hi : Src.items t9 (.zip (.tup (cutD [D.str "xor", .int a, .int b, .int c] (some 1) none)) (.box jl)) = some [.tup [.int a, .int 16777216], .tup [.int b, .int 2097152], .tup [.int c, .int 262144]] := items_zip_tb hl
      refine wfor_g [.tup [.int a, .int 16777216], .tup [.int b, .int 2097152], .tup [.int c, .int 262144]] hi ?_
      tb_start
      exact fin _ _ _ (by k_upd) (by simp [wds, kod]) (by allgen_close_more) (by top_name)
    · tb_start
      refine r_addL (by k_upd) (by k_upd) (by decide) ?_
      tb_start
      refine r_index (k := 7) (by k_upd) (by decide) (by decide) ?_
      tb_start
      rename_i t9 jl hl _ _
      have hi : Src.items t9 (.zip (.tup (cutD [D.str "less", .int a, .int b, .int c] (some 1) none)) (.box jl)) = some [.tup [.int a, .int 16777216], .tup [.int b, .int 2097152], .tup [.int c, .int 262144]] := items_zip_tb hl
      refine wfor_g [.tup [.int a, .int 16777216], .tup [.int b, .int 2097152], .tup [.int c, .int 262144]] hi ?_
      tb_start
      exact fin _ _ _ (by k_upd) (by simp [wds, kod]) (by allgen_close_more) (by top_name)
    · tb_start
      refine r_addL (by k_upd) (by k_upd) (by decide) ?_
      tb_start
      refine r_index (k := 8) (by k_upd) (by decide) (by decide) ?_
      tb_start
      rename_i t9 jl hl _ _
      have hi : Src.items t9 (.zip (.tup (cutD [D.str "left", .int a, .int b, .int c] (some 1) none)) (.box jl)) = some [.tup [.int a, .int 16777216], .tup [.int b, .int 2097152], .tup [.int c, .int 262144]] := items_zip_tb hl
      refine wfor_g [.tup [.int a, .int 16777216], .tup [.int b, .int 2097152], .tup [.int c, .int 262144]] hi ?_
      tb_start
      exact fin _ _ _ (by k_upd) (by simp [wds, kod]) (by allgen_close_more) (by top_name)
    · tb_start
      refine r_addL (by k_upd) (by k_upd) (by decide) ?_
      tb_start
      refine r_index (k := 9) (by k_upd) (by decide) (by decide) ?_
      tb_start
      rename_i t9 jl hl _ _
      have hi : Src.items t9 (.zip (.tup (cutD [D.str "right", .int a, .int b, .int c] (some 1) none)) (.box jl)) = some [.tup [.int a, .int 16777216], .tup [.int b, .int 2097152], .tup [.int c, .int 262144]] := items_zip_tb hl
      refine wfor_g [.tup [.int a, .int 16777216], .tup [.int b, .int 2097152], .tup [.int c, .int 262144]] hi ?_
      tb_start
      exact fin _ _ _ (by k_upd) (by simp [wds, kod]) (by allgen_close_more) (by top_name)
  | @more x a b n hx a0 a1 b0 b1 n0 n1 =>
    simp only [List.map_cons, List.map_nil]
    rcases hx with rfl | rfl | rfl
    · tb_start
      refine r_addL (by k_upd) (by k_upd) (by decide) ?_
      tb_start
      refine r_index (k := 10) (by k_upd) (by decide) (by decide) ?_
      tb_start
      exact fin _ _ _ (by k_upd) (by simp [wds, kod]; first | omega | (split <;> omega)) (by allgen_close_more) (by top_name)
    · tb_start
      refine r_addL (by k_upd) (by k_upd) (by decide) ?_
      tb_start
      refine r_index (k := 11) (by k_upd) (by decide) (by decide) ?_
      tb_start
      exact fin _ _ _ (by k_upd) (by simp [wds, kod]; first | omega | (split <;> omega)) (by allgen_close_more) (by top_name)
    · tb_start
      refine r_addL (by k_upd) (by k_upd) (by decide) ?_
      tb_start
      refine r_index (k := 12) (by k_upd) (by decide) (by decide) ?_
      tb_start
      exact fin _ _ _ (by k_upd) (by simp [wds, kod]; first | omega | (split <;> omega)) (by allgen_close_more) (by top_name)
  | @place x n hx n0 n1 =>
    simp only [List.map_cons, List.map_nil]
    rcases hx with rfl | rfl
    · tb_start
      refine r_addL (by k_upd) (by k_upd) (by decide) ?_
      tb_start
      refine r_index (k := 13) (by k_upd) (by decide) (by decide) ?_
      tb_start
      exact fin _ _ _ (by k_upd) (by simp [wds, kod]) (by allgen_close_more) (by top_name)
    · tb_start
      refine r_addL (by k_upd) (by k_upd) (by decide) ?_
      tb_start
      refine r_index (k := 18) (by k_upd) (by decide) (by decide) ?_
      tb_start
      exact fin _ _ _ (by k_upd) (by simp [wds, kod]) (by allgen_close_more) (by top_name)
  | @jumpif a n a0 a1 n0 n1 =>
    simp only [List.map_cons, List.map_nil]
    tb_start
    refine r_addL (by k_upd) (by k_upd) (by decide) ?_
    tb_start
    refine r_index (k := 14) (by k_upd) (by decide) (by decide) ?_
    tb_start
    exact fin _ _ _ (by k_upd) (by simp [wds, kod]) (by allgen_close_more) (by top_name)
  | @through b b0 b1 =>
    simp only [List.map_cons, List.map_nil]
    tb_start
    refine r_addL (by k_upd) (by k_upd) (by decide) ?_
    tb_start
    refine r_index (k := 15) (by k_upd) (by decide) (by decide) ?_
    tb_start
    exact fin _ _ _ (by k_upd) (by simp [wds, kod]) (by allgen_close_more) (by top_name)
  | @two x a b hx a0 a1 b0 b1 =>
    simp only [List.map_cons, List.map_nil]
    rcases hx with rfl | rfl
    · tb_start
      refine r_addL (by k_upd) (by k_upd) (by decide) ?_
      tb_start
      refine r_index (k := 16) (by k_upd) (by decide) (by decide) ?_
      tb_start
      rename_i t9 jl hl _ _
      have hi : Src.items t9 (.zip (.tup (cutD [D.str "fit", .int a, .int b] (some 1) none)) (.box jl)) = some [.tup [.int a, .int 16777216], .tup [.int b, .int 2097152]] := items_zip_tb hl
      refine wfor_g [.tup [.int a, .int 16777216], .tup [.int b, .int 2097152]] hi ?_
      tb_start
      exact fin _ _ _ (by k_upd) (by simp [wds, kod]) (by allgen_close_more) (by top_name)
    · tb_start
      refine r_addL (by k_upd) (by k_upd) (by decide) ?_
      tb_start
      refine r_index (k := 17) (by k_upd) (by decide) (by decide) ?_
      tb_start
      rename_i t9 jl hl _ _
      have hi : Src.items t9 (.zip (.tup (cutD [D.str "aim", .int a, .int b] (some 1) none)) (.box jl)) = some [.tup [.int a, .int 16777216], .tup [.int b, .int 2097152]] := items_zip_tb hl
      refine wfor_g [.tup [.int a, .int 16777216], .tup [.int b, .int 2097152]] hi ?_
      tb_start
      exact fin _ _ _ (by k_upd) (by simp [wds, kod]) (by allgen_close_more) (by top_name)
  --@end
end
end P

set_option Elab.async false
set_option linter.all false
set_option maxRecDepth 100000
set_option maxHeartbeats 4000000
/-! k12: alike, the instruction at a place -/
namespace P
open PySem L2 G
local macro_rules | `(tactic| top_raise0) => `(tactic| first | omega | (unfold mulOk; omega) | ((repeat' (apply And.intro)) <;> first | omega | with_reducible assumption | rfl | (unfold mulOk; omega)))
local macro_rules | `(tactic| k_upd) => `(tactic| first | with_reducible assumption | ((with_reducible refine At.fr0 (by with_reducible assumption) ?_); k_upd) | ((with_reducible refine At.fr1 (by with_reducible assumption) ?_ ?_); (focus k_upd); top_raise) | ((with_reducible refine At.fr2 (by with_reducible assumption) ?_ ?_ ?_); (focus k_upd); (focus top_raise); top_raise))
local macro_rules | `(tactic| k_updF) => `(tactic| first | with_reducible assumption | with_reducible exact At.lt (by with_reducible assumption) | ((with_reducible refine Fr.lt (by with_reducible assumption) ?_); k_updF))
local macro_rules | `(tactic| top_raise) => `(tactic| first | with_reducible assumption | ((with_reducible refine Nw.ne (by with_reducible assumption) ?_); k_updF) | ((with_reducible refine Nw.ne' (by with_reducible assumption) ?_); k_updF) | omega)
local macro_rules | `(tactic| kbo_bools) => `(tactic| simp -dsimp)
local macro_rules | `(tactic| kat_tups) => `(tactic| first | rfl | with_reducible assumption | exact atI_nat rfl)
local macro_rules | `(tactic| tb_rel) => `(tactic| first
   | ((with_reducible refine gd_i ?_ ?_); (focus first | exact ⟨_, lAt_at (by k_upd)⟩ | top_raise0))
   | ((with_reducible apply atK_i); (focus kat_tups))
   | ((with_reducible apply r_ix); (focus k_upd))
   | ((with_reducible apply r_len); (focus k_upd))
   | ((with_reducible apply r_inL); (focus k_upd); (focus (simp; done)))
   | ((with_reducible apply r_chk); (focus k_upd))
   | ((with_reducible refine r_new ?_); intro _ _ _ _ _)
   | ((with_reducible apply r_app); (focus k_upd); (focus top_raise0); intro _ hA _; (try simp only [List.nil_append, List.cons_append] at hA))
   | ((with_reducible apply r_putT); (focus k_upd); (focus top_caught); (focus top_caught); intro _ hA _; (try simp only [Int.reduceToNat, List.set_cons_zero, List.set_cons_succ] at hA))
   | (with_reducible refine ws_for ?_)
   | (with_reducible refine wfor_t1 ?_)
   | (with_reducible refine wfor_t0 ?_)
   | ((with_reducible refine r_eqO ?_ ?_ ?_); (focus (simp [okD, okL]; done)); (focus (simp [dpD, dpL]; done)))
   | ((with_reducible refine r_neO ?_ ?_ ?_); (focus (simp [okD, okL]; done)); (focus (simp [dpD, dpL]; done)))
   | ((with_reducible refine sel_t ?_ ?_); (focus top_raise0))
   | ((with_reducible refine sel_f ?_ ?_); (focus top_raise0)))
local macro_rules | `(tactic| tb_start) => `(tactic| repeat (first | kbo_bools | tb_rel))
local macro_rules | `(tactic| top_caught) => `(tactic| first | omega | (simp; done) | (simp; omega) | (simp; constructor <;> omega))
local macro_rules | `(tactic| top_name) => `(tactic| first | with_reducible assumption | exact Fr.refl | ((with_reducible refine Fr.trans ?_ (by with_reducible assumption)); top_name) | ((with_reducible refine Fr.trans ?_ (Fr.up (by with_reducible assumption))); top_name) | ((with_reducible refine Fr.new ?_ ?_ (by with_reducible assumption)); (focus top_name); allgen_close_more) | ((with_reducible refine Fr.new2 ?_ ?_ (by with_reducible assumption) (by simp)); (focus top_name); allgen_close_more))
local macro_rules | `(tactic| allgen_close_more) => `(tactic| first | with_reducible assumption | ((with_reducible refine Fr.nw (by with_reducible assumption) ?_); allgen_close_more))
local macro_rules | `(tactic| allgen_close2_more) => `(tactic| simp only [fill_some, fill_none, fill_nil, Nat.reduceAdd])
local macro_rules | `(tactic| top_args) => `(tactic| first | with_reducible assumption | ((with_reducible refine Deal3.fr0 (by with_reducible assumption) ?_); top_args))
local macro_rules | `(tactic| tb_rel) => `(tactic| ((with_reducible refine w_draw3 ?_ ?_ ?_ ?_); (focus top_args); (focus top_raise0); (focus top_raise0); intro _ _ _ _ _ _))
local macro_rules | `(tactic| k_updF) => `(tactic| with_reducible exact Deal3.lt (by with_reducible assumption))
section
variable {s : Sto} {Q : D → Sto → Prop} {E : XP} {u : Lk2 Q E}
theorem w_length_of {x : String} {vs : List Int} (h : InsOk x vs) (k : Q (.int (wds x vs).length) s) : wp (g_length_of [insD x vs]) s Q E u := by
  refine u_length_of ?_
  unfold c_length_of insD
  cases h with
  --@cases length
  | stop =>
    simp only [List.map_cons, List.map_nil]
    tb_start
    simpa [wds, kod] using k
  | @put a v a0 a1 v0 v1 =>
    simp only [List.map_cons, List.map_nil]
    tb_start
    simpa [wds, kod] using k
  | @three x a b c hx a0 a1 b0 b1 c0 c1 =>
    simp only [List.map_cons, List.map_nil]
    rcases hx with rfl | rfl | rfl | rfl | rfl | rfl | rfl | rfl
    · tb_start
      simpa [wds, kod] using k
    · tb_start
      simpa [wds, kod] using k
    · tb_start
      simpa [wds, kod] using k
    · tb_start
      simpa [wds, kod] using k
    · tb_start
      simpa [wds, kod] using k
    · tb_start
      simpa [wds, kod] using k
    · tb_start
      simpa [wds, kod] using k
    · tb_start
      simpa [wds, kod] using k
  | @more x a b n hx a0 a1 b0 b1 n0 n1 =>
    simp only [List.map_cons, List.map_nil]
    rcases hx with rfl | rfl | rfl
    · tb_start
      simpa [wds, kod] using k
    · tb_start
      simpa [wds, kod] using k
    · tb_start
      simpa [wds, kod] using k
  | @place x n hx n0 n1 =>
    simp only [List.map_cons, List.map_nil]
    rcases hx with rfl | rfl
    · tb_start
      simpa [wds, kod] using k
    · tb_start
      simpa [wds, kod] using k
  | @jumpif a n a0 a1 n0 n1 =>
    simp only [List.map_cons, List.map_nil]
    tb_start
    simpa [wds, kod] using k
  | @through b b0 b1 =>
    simp only [List.map_cons, List.map_nil]
    tb_start
    simpa [wds, kod] using k
  | @two x a b hx a0 a1 b0 b1 =>
    simp only [List.map_cons, List.map_nil]
    rcases hx with rfl | rfl
    · tb_start
      simpa [wds, kod] using k
    · tb_start
      simpa [wds, kod] using k
  --@end
theorem wa_int {n : Nat} {i : Int} (k : Q (.bl true) s) : wp (g_rlaw_alike_1 (n + 1) [.int i, .int i]) s Q E u := by
  refine u_law_alike_1 ?_
  unfold c_law_alike_1
  tb_start
theorem wa_str {n : Nat} {x : String} (k : Q (.bl true) s) : wp (g_rlaw_alike_1 (n + 1) [.str x, .str x]) s Q E u := by
  refine u_law_alike_1 ?_
  unfold c_law_alike_1
  tb_start
theorem wa_tup {n : Nat} {ds : List D} (hl : ds.length ≤ 1000000) (h : ∀ d ∈ ds, ∀ (Q : D → Sto → Prop) (E : XP), Q (.bl true) s → wp (g_rlaw_alike_1 n [d, d]) s Q E) (k : Q (.bl true) s) : wp (g_rlaw_alike_1 (n + 1) [.tup ds, .tup ds]) s Q E u := by
  refine u_law_alike_1 ?_
  unfold c_law_alike_1
  generalize hI : iRng (cCall bLen (aCons (cV 1) aNil)) = src
  kbo_bools
  refine r_lc ?_
  rw [← hI]
  kbo_bools
  refine gd_i (by omega) ?_
  refine wlc_r (fun i ys t => t = s ∧ ys.length = i ∧ ∀ y ∈ ys, y = .bl true) (by omega) ⟨rfl, rfl, by simp⟩ ?_ ?_
  · rintro i ys t hi ⟨rfl, yl, yy⟩
    kbo_bools
    have hi : i < ds.length := by omega
    obtain ⟨d, hd⟩ : ∃ d, ds[i]? = some d := ⟨ds[i], List.getElem?_eq_getElem hi⟩
    refine atK_i (v := d) (atI_nat hd) ?_
    kbo_bools
    refine atK_i (v := d) (atI_nat hd) ?_
    kbo_bools
    refine h d (List.mem_of_getElem? hd) _ _ ?_
    refine dn_i ⟨rfl, by simp [yl], fun y hy => ?_⟩
    rcases List.mem_append.mp hy with q | q
    · exact yy y q
    · exact List.mem_singleton.mp q
  · rintro ys t ⟨rfl, _, yy⟩
    have e1 : ys.all isBl = true := List.all_eq_true.mpr fun y hy => by rw [yy y hy]; rfl
    have e2 : ys.all blOf = true := List.all_eq_true.mpr fun y hy => by rw [yy y hy]; rfl
    refine gd_i e1 ?_
    rw [e2]
    exact k
/-- a comprehension over known parts -/
def wlcK (tg : Tg) (t : CT) (c : CE) (e : En) (Q : List D → Sto → Prop) : List D → List D → Sto → Prop
  | [], ys, s => Q ys s
  | x :: r, ys, s => withT tg x e fun e' => wp (t e') s (fun b u => sel b (wp (c e') u (fun y v => wlcK tg t c e Q r (ys ++ [y]) v) NX) (wlcK tg t c e Q r ys u)) NX
@[simp ↓] theorem wlcK_nil {tg : Tg} {t : CT} {c : CE} {e : En} {Q : List D → Sto → Prop} {ys : List D} : wlcK tg t c e Q [] ys s = Q ys s := propext Iff.rfl
@[simp ↓] theorem wlcK_cons {tg : Tg} {t : CT} {c : CE} {e : En} {Q : List D → Sto → Prop} {ys r : List D} {x : D} : wlcK tg t c e Q (x :: r) ys s = withT tg x e fun e' => wp (t e') s (fun b u => sel b (wp (c e') u (fun y v => wlcK tg t c e Q r (ys ++ [y]) v) NX) (wlcK tg t c e Q r ys u)) NX := propext Iff.rfl
theorem wlc_k {w : Src} {tg : Tg} {t : CT} {c : CE} {e : En} {Q : List D → Sto → Prop} {v : Lk1 Q} (all : List D) (hw : ∀ t, w.items t = some all) (hl : all.length ≤ 1000000) (h : wlcK tg t c e Q all [] s) : wlc w tg t c e s Q v := by
  refine ⟨all, fun i ys t2 => wlcK tg t c e Q (all.drop i) ys t2, hw s, hl, h, fun _ _ t _ => hw t, fun i x ys t1 hx k => ?_, fun ys t1 k => ?_⟩
  · have hlt : i < all.length := (List.getElem?_eq_some_iff.mp hx).1
    have e1 : all.drop i = x :: all.drop (i + 1) := by
      rw [List.drop_eq_getElem_cons hlt]
      rw [List.getElem?_eq_getElem hlt] at hx
      cases hx
      rfl
    have k : wlcK tg t c e Q (all.drop i) ys t1 := k
    rw [e1] at k
    exact k
  · have k : wlcK tg t c e Q (all.drop all.length) ys t1 := k
    rw [List.drop_length] at k
    exact k
theorem w_r3 {v r : Int} (h : v % 8 = r) (k : Q (.int r) s) : wp (g_rest [.int v, .int 3]) s Q E u := w_rest12 (by decide) (by decide) (by have e : p2 3 = 8 := rfl; rw [e, h]; exact k)
theorem w_r18 {v r : Int} (h : v % 262144 = r) (k : Q (.int r) s) : wp (g_rest [.int v, .int 18]) s Q E u := w_rest12 (by decide) (by decide) (by have e : p2 18 = 262144 := rfl; rw [e, h]; exact k)
end
end P

set_option Elab.async false
set_option linter.all false
set_option maxRecDepth 100000
set_option maxHeartbeats 4000000
/-! the instruction at any place of any words -/
namespace P
open PySem L2 G
local macro_rules | `(tactic| top_raise0) => `(tactic| first | omega | (unfold mulOk; omega) | ((repeat' (apply And.intro)) <;> first | omega | with_reducible assumption | rfl | (unfold mulOk; omega)))
local macro_rules | `(tactic| k_upd) => `(tactic| first | with_reducible assumption | ((with_reducible refine At.fr0 (by with_reducible assumption) ?_); k_upd) | ((with_reducible refine At.fr1 (by with_reducible assumption) ?_ ?_); (focus k_upd); top_raise) | ((with_reducible refine At.fr2 (by with_reducible assumption) ?_ ?_ ?_); (focus k_upd); (focus top_raise); top_raise))
local macro_rules | `(tactic| k_updF) => `(tactic| first | with_reducible assumption | with_reducible exact At.lt (by with_reducible assumption) | ((with_reducible refine Fr.lt (by with_reducible assumption) ?_); k_updF))
local macro_rules | `(tactic| top_raise) => `(tactic| first | with_reducible assumption | ((with_reducible refine Nw.ne (by with_reducible assumption) ?_); k_updF) | ((with_reducible refine Nw.ne' (by with_reducible assumption) ?_); k_updF) | omega)
local macro_rules | `(tactic| kbo_bools) => `(tactic| simp -dsimp)
local macro_rules | `(tactic| kat_tups) => `(tactic| first | rfl | with_reducible assumption | exact atI_nat rfl)
local macro_rules | `(tactic| tb_rel) => `(tactic| first
   | ((with_reducible refine gd_i ?_ ?_); (focus first | exact ⟨_, lAt_at (by k_upd)⟩ | top_raise0))
   | ((with_reducible apply atK_i); (focus kat_tups))
   | ((with_reducible apply r_ix); (focus k_upd))
   | ((with_reducible apply r_len); (focus k_upd))
   | ((with_reducible apply r_inL); (focus k_upd); (focus (simp; done)))
   | ((with_reducible apply r_chk); (focus k_upd))
   | ((with_reducible refine r_new ?_); intro _ _ _ _ _)
   | ((with_reducible apply r_app); (focus k_upd); (focus top_raise0); intro _ hA _; (try simp only [List.nil_append, List.cons_append] at hA))
   | ((with_reducible apply r_putT); (focus k_upd); (focus top_caught); (focus top_caught); intro _ hA _; (try simp only [Int.reduceToNat, List.set_cons_zero, List.set_cons_succ] at hA))
   | (with_reducible refine ws_for ?_)
   | (with_reducible refine wfor_t1 ?_)
   | (with_reducible refine wfor_t0 ?_)
   | ((with_reducible refine r_eqO ?_ ?_ ?_); (focus (simp [okD, okL]; done)); (focus (simp [dpD, dpL]; done)))
   | ((with_reducible refine r_neO ?_ ?_ ?_); (focus (simp [okD, okL]; done)); (focus (simp [dpD, dpL]; done)))
   | ((with_reducible refine sel_t ?_ ?_); (focus top_raise0))
   | ((with_reducible refine sel_f ?_ ?_); (focus top_raise0)))
local macro_rules | `(tactic| tb_start) => `(tactic| repeat (first | kbo_bools | tb_rel))
local macro_rules | `(tactic| top_caught) => `(tactic| first | omega | (simp; done) | (simp; omega) | (simp; constructor <;> omega))
local macro_rules | `(tactic| top_name) => `(tactic| first | with_reducible assumption | exact Fr.refl | ((with_reducible refine Fr.trans ?_ (by with_reducible assumption)); top_name) | ((with_reducible refine Fr.trans ?_ (Fr.up (by with_reducible assumption))); top_name) | ((with_reducible refine Fr.new ?_ ?_ (by with_reducible assumption)); (focus top_name); allgen_close_more) | ((with_reducible refine Fr.new2 ?_ ?_ (by with_reducible assumption) (by simp)); (focus top_name); allgen_close_more))
local macro_rules | `(tactic| allgen_close_more) => `(tactic| first | with_reducible assumption | ((with_reducible refine Fr.nw (by with_reducible assumption) ?_); allgen_close_more))
local macro_rules | `(tactic| allgen_close2_more) => `(tactic| simp only [fill_some, fill_none, fill_nil, Nat.reduceAdd])
/-- the first word -/
def wds1 (x : String) (vs : List Int) : Int := (wds x vs).headD 0
theorem wds_cons {x : String} {vs : List Int} (h : InsOk x vs) : ∃ r, wds x vs = wds1 x vs :: r := by
  unfold wds1 wds
  cases h <;> simp <;> (try split) <;> (try simp) <;> (try split) <;> (try simp)
/-- what a word's fields say, by the sort's number -/
def rdV (k a b c n sn : Int) : String × List Int :=
  if k = 0 then ("stop", []) else if k = 2 then ("add", [a, b, c]) else if k = 3 then ("sub", [a, b, c]) else if k = 4 then ("and", [a, b, c]) else if k = 5 then ("or", [a, b, c])
  else if k = 6 then ("xor", [a, b, c]) else if k = 7 then ("less", [a, b, c]) else if k = 8 then ("left", [a, b, c]) else if k = 9 then ("right", [a, b, c]) else if k = 10 then ("more", [a, b, sn])
  else if k = 11 then ("load", [a, b, sn]) else if k = 12 then ("store", [a, b, sn]) else if k = 13 then ("jump", [n]) else if k = 14 then ("jumpif", [a, n]) else if k = 15 then ("through", [b])
  else if k = 16 then ("fit", [a, b]) else if k = 17 then ("aim", [a, b]) else ("gate", [n])
abbrev sgn (n : Int) : Int := if 131072 ≤ n then n - 262144 else n
/-- the instruction that a word tells, with what stands behind it -/
def dec (w : Int) (nx : Option Int) : Option (String × List Int) :=
  if 18 < w / 134217728 then none else if w / 134217728 = 1 then (match nx with
    | none => none
    | some v => if wds1 "put" [w / 16777216 % 8, v] = w then some ("put", [w / 16777216 % 8, v]) else none)
  else
    let xv := rdV (w / 134217728) (w / 16777216 % 8) (w / 2097152 % 8) (w / 262144 % 8) (w % 262144) (sgn (w % 262144))
    if wds1 xv.1 xv.2 = w then some xv else none
def decD : Option (String × List Int) → D
  | none => .non
  | some p => insD p.1 p.2
def insAt (code : List Int) (p : Int) : Option (String × List Int) := if 0 ≤ p ∧ p < code.length then dec (code.getD p.toNat 0) code[p.toNat + 1]? else none
def Vals32 (code : List Int) : Prop := ∀ v ∈ code, 0 ≤ v ∧ v < 4294967296
theorem insAt_in {code : List Int} {p w : Int} (p0 : 0 ≤ p) (p1 : p < code.length) (hw : code[p.toNat]? = some w) : insAt code p = dec w code[p.toNat + 1]? := by
  unfold insAt
  rw [if_pos ⟨p0, p1⟩, List.getD_eq_getElem?_getD, hw]
  rfl
theorem insAt_out {code : List Int} {p : Int} (h : ¬ (0 ≤ p ∧ p < code.length)) : insAt code p = none := by
  unfold insAt
  rw [if_neg h]
theorem next_at {code : List Int} {p : Int} (hc : Vals32 code) (p0 : 0 ≤ p) (p1 : p + 1 < code.length) : ∃ v, (code[p.toNat + 1]? = some v ∧ atI (code.map D.int) (p + 1) = some (.int v)) ∧ 0 ≤ v ∧ v < 4294967296 := by
  obtain ⟨n, rfl⟩ := Int.eq_ofNat_of_zero_le p0
  have hn : n + 1 < code.length := by omega
  have e : code[n + 1]? = some code[n + 1] := List.getElem?_eq_getElem hn
  exact ⟨_, ⟨e, atI_nat (j := n + 1) (by rw [List.getElem?_map, e]; rfl)⟩, hc _ (List.getElem_mem hn)⟩
section
variable {s : Sto} {Q : D → Sto → Prop} {E : XP} {u : Lk2 Q E}
theorem w_signed18 {n sn : Int} (h : sn = sgn n) (n0 : 0 ≤ n) (n1 : n < 262144) (k : Q (.int sn) s) : wp (g_signed [.int n, .int 18]) s Q E u := by
  refine u_signed ?_
  unfold c_signed
  subst h
  unfold sgn at k
  tb_start
  refine sel_i (fun c => ?_) (fun c => ?_)
  · rw [if_pos (by omega)] at k
    tb_start
  · rw [if_neg (by omega)] at k
    tb_start
theorem w_insAt {j : Nat} {code : List Int} {p : Int} (hj : At s j (.lst (code.map D.int))) (hc0 : Vals32 code) (k : ∀ t, Fr [] s t → Q (decD (insAt code p)) t) : wp (g_instruction_at [.box j, .int p]) s Q E u := by
  refine u_instruction_at ?_
  unfold c_instruction_at
  by_cases p0 : 0 ≤ p
  rotate_left
  · have k := k s Fr.refl
    rw [insAt_out (by omega)] at k
    tb_start
    exact k
  by_cases p1 : p < code.length
  rotate_left
  · have k := k s Fr.refl
    rw [insAt_out (by omega)] at k
    tb_start
    exact k
  obtain ⟨w, hw, w0, w1⟩ : ∃ w, code[p.toNat]? = some w ∧ 0 ≤ w ∧ w < 4294967296 := by
    have hn : p.toNat < code.length := by omega
    exact ⟨_, List.getElem?_eq_getElem hn, hc0 _ (List.getElem_mem hn)⟩
  have hw' : atI (code.map D.int) p = some (.int w) := by
    obtain ⟨n, rfl⟩ := Int.eq_ofNat_of_zero_le p0
    exact atI_nat (by rw [List.getElem?_map]; simp at hw; rw [hw]; rfl)
  obtain ⟨a, ha⟩ : ∃ a, a = w / 16777216 % 8 := ⟨_, rfl⟩
  obtain ⟨b, hb⟩ : ∃ a, a = w / 2097152 % 8 := ⟨_, rfl⟩
  obtain ⟨c, hc⟩ : ∃ a, a = w / 262144 % 8 := ⟨_, rfl⟩
  obtain ⟨n, hn⟩ : ∃ a, a = w % 262144 := ⟨_, rfl⟩
  obtain ⟨sn, hsn⟩ : ∃ a, a = sgn n := ⟨_, rfl⟩
  have a0 : 0 ≤ a := by omega
  have a1 : a < 8 := by omega
  have b0 : 0 ≤ b := by omega
  have b1 : b < 8 := by omega
  have c0 : 0 ≤ c := by omega
  have c1 : c < 8 := by omega
  have n0 : 0 ≤ n := by omega
  have n1 : n < 262144 := by omega
  have sn0 : -131072 ≤ sn := by unfold sgn at hsn; omega
  have sn1 : sn < 131072 := by unfold sgn at hsn; omega
  tb_start
  refine sel_i (fun c18 => ?_) (fun c18 => ?_)
  · have k := k s Fr.refl
    rw [insAt_in p0 p1 hw] at k
    have e : 18 < w / 134217728 := by omega
    simp [dec, e, decD] at k
    tb_start
    try exact k
  have h18 : w / 134217728 = 0 ∨ w / 134217728 = 1 ∨ w / 134217728 = 2 ∨ w / 134217728 = 3 ∨ w / 134217728 = 4 ∨ w / 134217728 = 5 ∨ w / 134217728 = 6 ∨ w / 134217728 = 7 ∨ w / 134217728 = 8 ∨ w / 134217728 = 9 ∨ w / 134217728 = 10 ∨ w / 134217728 = 11 ∨ w / 134217728 = 12 ∨ w / 134217728 = 13 ∨ w / 134217728 = 14 ∨ w / 134217728 = 15 ∨ w / 134217728 = 16 ∨ w / 134217728 = 17 ∨ w / 134217728 = 18 := by omega
  tb_start
  rcases h18 with e | e | e | e | e | e | e | e | e | e | e | e | e | e | e | e | e | e | e
  --@cases dec
  · rw [e]
    refine atK_i (v := .str "stop") (by rfl) ?_
    tb_start
    refine r_lc ?_
    tb_start
    refine u_fields_of ?_
    unfold c_fields_of
    tb_start
    refine gd_i ⟨_, rfl⟩ ?_
    refine wlc_k [] (fun _ => rfl) (by decide) ?_
    tb_start
    have hk : InsOk "stop" [] := .stop
    have ek : insAt code p = if wds1 "stop" [] = w then some ("stop", []) else none := by simp [insAt_in p0 p1 hw, dec, rdV, e, ← ha, ← hb, ← hc, ← hn, ← hsn]
    refine w_words_of hk fun t b2 hb2 nb fb => ?_
    obtain ⟨r, hr⟩ := wds_cons hk
    rw [hr] at hb2
    simp only [List.map_cons] at hb2
    have k := k t (by top_name)
    rw [ek] at k
    tb_start
    refine sel_i (fun c => ?_) (fun c => ?_)
    · rw [if_pos c] at k
      tb_start
      try exact k
    · rw [if_neg c] at k
      tb_start
      try exact k
  · rw [e]
    refine atK_i (v := .str "put") (by rfl) ?_
    tb_start
    refine r_lc ?_
    tb_start
    refine u_fields_of ?_
    unfold c_fields_of
    tb_start
    refine gd_i ⟨_, rfl⟩ ?_
    refine wlc_k [.str "a"] (fun _ => rfl) (by decide) ?_
    tb_start
    refine u_field_in ?_
    unfold c_field_in
    tb_start
    refine w_r3 (r := a) ha.symm ?_
    tb_start
    refine sel_i (fun hl => ?_) (fun hl => ?_)
    · have hv : code[p.toNat + 1]? = none := List.getElem?_eq_none (by omega)
      have k := k s Fr.refl
      simp [insAt_in p0 p1 hw, dec, e, hv, decD] at k
      tb_start
      try exact k
    · obtain ⟨v, hv, v0, v1⟩ := next_at hc0 (p := p) p0 (by omega)
      tb_start
      refine atK_i (v := .int v) hv.2 ?_
      tb_start
      have hk : InsOk "put" [a, v] := .put a0 a1 v0 v1
      have ek : insAt code p = if wds1 "put" [a, v] = w then some ("put", [a, v]) else none := by simp [insAt_in p0 p1 hw, dec, rdV, e, ← ha, ← hb, ← hc, ← hn, ← hsn, hv.1]
      refine w_words_of hk fun t b2 hb2 nb fb => ?_
      obtain ⟨r, hr⟩ := wds_cons hk
      rw [hr] at hb2
      simp only [List.map_cons] at hb2
      have k := k t (by top_name)
      rw [ek] at k
      tb_start
      refine sel_i (fun c => ?_) (fun c => ?_)
      · rw [if_pos c] at k
        tb_start
        try exact k
      · rw [if_neg c] at k
        tb_start
        try exact k
  · rw [e]
    refine atK_i (v := .str "add") (by rfl) ?_
    tb_start
    refine r_lc ?_
    tb_start
    refine u_fields_of ?_
    unfold c_fields_of
    tb_start
    refine gd_i ⟨_, rfl⟩ ?_
    refine wlc_k [.str "a", .str "b", .str "c"] (fun _ => rfl) (by decide) ?_
    tb_start
    refine u_field_in ?_
    unfold c_field_in
    tb_start
    refine w_r3 (r := a) ha.symm ?_
    tb_start
    refine u_field_in ?_
    unfold c_field_in
    tb_start
    refine w_r3 (r := b) hb.symm ?_
    tb_start
    refine u_field_in ?_
    unfold c_field_in
    tb_start
    refine w_r3 (r := c) hc.symm ?_
    tb_start
    have hk : InsOk "add" [a, b, c] := .three (by simp) a0 a1 b0 b1 c0 c1
    have ek : insAt code p = if wds1 "add" [a, b, c] = w then some ("add", [a, b, c]) else none := by simp [insAt_in p0 p1 hw, dec, rdV, e, ← ha, ← hb, ← hc, ← hn, ← hsn]
    refine w_words_of hk fun t b2 hb2 nb fb => ?_
    obtain ⟨r, hr⟩ := wds_cons hk
    rw [hr] at hb2
    simp only [List.map_cons] at hb2
    have k := k t (by top_name)
    rw [ek] at k
    tb_start
    refine sel_i (fun c => ?_) (fun c => ?_)
    · rw [if_pos c] at k
      tb_start
      try exact k
    · rw [if_neg c] at k
      tb_start
      try exact k
  · rw [e]
    refine atK_i (v := .str "sub") (by rfl) ?_
    tb_start
    refine r_lc ?_
    tb_start
    refine u_fields_of ?_
    unfold c_fields_of
    tb_start
    refine gd_i ⟨_, rfl⟩ ?_
    refine wlc_k [.str "a", .str "b", .str "c"] (fun _ => rfl) (by decide) ?_
    tb_start
    refine u_field_in ?_
    unfold c_field_in
    tb_start
    refine w_r3 (r := a) ha.symm ?_
    tb_start
    refine u_field_in ?_
    unfold c_field_in
    tb_start
    refine w_r3 (r := b) hb.symm ?_
    tb_start
    refine u_field_in ?_
    unfold c_field_in
    tb_start
    refine w_r3 (r := c) hc.symm ?_
    tb_start
    have hk : InsOk "sub" [a, b, c] := .three (by simp) a0 a1 b0 b1 c0 c1
    have ek : insAt code p = if wds1 "sub" [a, b, c] = w then some ("sub", [a, b, c]) else none := by simp [insAt_in p0 p1 hw, dec, rdV, e, ← ha, ← hb, ← hc, ← hn, ← hsn]
    refine w_words_of hk fun t b2 hb2 nb fb => ?_
    obtain ⟨r, hr⟩ := wds_cons hk
    rw [hr] at hb2
    simp only [List.map_cons] at hb2
    have k := k t (by top_name)
    rw [ek] at k
    tb_start
    refine sel_i (fun c => ?_) (fun c => ?_)
    · rw [if_pos c] at k
      tb_start
      try exact k
    · rw [if_neg c] at k
      tb_start
      try exact k
  · rw [e]
    refine atK_i (v := .str "and") (by rfl) ?_
    tb_start
    refine r_lc ?_
    tb_start
    refine u_fields_of ?_
    unfold c_fields_of
    tb_start
    refine gd_i ⟨_, rfl⟩ ?_
    refine wlc_k [.str "a", .str "b", .str "c"] (fun _ => rfl) (by decide) ?_
    tb_start
    refine u_field_in ?_
    unfold c_field_in
    tb_start
    refine w_r3 (r := a) ha.symm ?_
    tb_start
    refine u_field_in ?_
    unfold c_field_in
    tb_start
    refine w_r3 (r := b) hb.symm ?_
    tb_start
    refine u_field_in ?_
    unfold c_field_in
    tb_start
    refine w_r3 (r := c) hc.symm ?_
    tb_start
    have hk : InsOk "and" [a, b, c] := .three (by simp) a0 a1 b0 b1 c0 c1
    have ek : insAt code p = if wds1 "and" [a, b, c] = w then some ("and", [a, b, c]) else none := by simp [insAt_in p0 p1 hw, dec, rdV, e, ← ha, ← hb, ← hc, ← hn, ← hsn]
    refine w_words_of hk fun t b2 hb2 nb fb => ?_
    obtain ⟨r, hr⟩ := wds_cons hk
    rw [hr] at hb2
    simp only [List.map_cons] at hb2
    have k := k t (by top_name)
    rw [ek] at k
    tb_start
    refine sel_i (fun c => ?_) (fun c => ?_)
    · rw [if_pos c] at k
      tb_start
      try exact k
    · rw [if_neg c] at k
      tb_start
      try exact k
  · rw [e]
    refine atK_i (v := .str "or") (by rfl) ?_
    tb_start
    refine r_lc ?_
    tb_start
    refine u_fields_of ?_
    unfold c_fields_of
    tb_start
    refine gd_i ⟨_, rfl⟩ ?_
    refine wlc_k [.str "a", .str "b", .str "c"] (fun _ => rfl) (by decide) ?_
    tb_start
    refine u_field_in ?_
    unfold c_field_in
    tb_start
    refine w_r3 (r := a) ha.symm ?_
    tb_start
    refine u_field_in ?_
    unfold c_field_in
    tb_start
    refine w_r3 (r := b) hb.symm ?_
    tb_start
    refine u_field_in ?_
    unfold c_field_in
    tb_start
    refine w_r3 (r := c) hc.symm ?_
    tb_start
    have hk : InsOk "or" [a, b, c] := .three (by simp) a0 a1 b0 b1 c0 c1
    have ek : insAt code p = if wds1 "or" [a, b, c] = w then some ("or", [a, b, c]) else none := by simp [insAt_in p0 p1 hw, dec, rdV, e, ← ha, ← hb, ← hc, ← hn, ← hsn]
    refine w_words_of hk fun t b2 hb2 nb fb => ?_
    obtain ⟨r, hr⟩ := wds_cons hk
    rw [hr] at hb2
    simp only [List.map_cons] at hb2
    have k := k t (by top_name)
    rw [ek] at k
    tb_start
    refine sel_i (fun c => ?_) (fun c => ?_)
    · rw [if_pos c] at k
      tb_start
      try exact k
    · rw [if_neg c] at k
      tb_start
      try exact k
  · rw [e]
    refine atK_i (v := .str "xor") (by rfl) ?_
    tb_start
    refine r_lc ?_
    tb_start
    refine u_fields_of ?_
    unfold c_fields_of
    tb_start
    refine gd_i ⟨_, rfl⟩ ?_
    refine wlc_k [.str "a", .str "b", .str "c"] (fun _ => rfl) (by decide) ?_
    tb_start
    refine u_field_in ?_
    unfold c_field_in
    tb_start
    refine w_r3 (r := a) ha.symm ?_
    tb_start
    refine u_field_in ?_
    unfold c_field_in
    tb_start
    refine w_r3 (r := b) hb.symm ?_
    tb_start
    refine u_field_in ?_
    unfold c_field_in
    tb_start
    refine w_r3 (r := c) hc.symm ?_
    tb_start
    have hk : InsOk "xor" [a, b, c] := .three (by simp) a0 a1 b0 b1 c0 c1
    have ek : insAt code p = if wds1 "xor" [a, b, c] = w then some ("xor", [a, b, c]) else none := by simp [insAt_in p0 p1 hw, dec, rdV, e, ← ha, ← hb, ← hc, ← hn, ← hsn]
    refine w_words_of hk fun t b2 hb2 nb fb => ?_
    obtain ⟨r, hr⟩ := wds_cons hk
    rw [hr] at hb2
    simp only [List.map_cons] at hb2
    have k := k t (by top_name)
    rw [ek] at k
    tb_start
    refine sel_i (fun c => ?_) (fun c => ?_)
    · rw [if_pos c] at k
      tb_start
      try exact k
    · rw [if_neg c] at k
      tb_start
      try exact k
  · rw [e]
    refine atK_i (v := .str "less") (by rfl) ?_
    tb_start
    refine r_lc ?_
    tb_start
    refine u_fields_of ?_
    unfold c_fields_of
    tb_start
    refine gd_i ⟨_, rfl⟩ ?_
    refine wlc_k [.str "a", .str "b", .str "c"] (fun _ => rfl) (by decide) ?_
    tb_start
    refine u_field_in ?_
    unfold c_field_in
    tb_start
    refine w_r3 (r := a) ha.symm ?_
    tb_start
    refine u_field_in ?_
    unfold c_field_in
    tb_start
    refine w_r3 (r := b) hb.symm ?_
    tb_start
    refine u_field_in ?_
    unfold c_field_in
    tb_start
    refine w_r3 (r := c) hc.symm ?_
    tb_start
    have hk : InsOk "less" [a, b, c] := .three (by simp) a0 a1 b0 b1 c0 c1
    have ek : insAt code p = if wds1 "less" [a, b, c] = w then some ("less", [a, b, c]) else none := by simp [insAt_in p0 p1 hw, dec, rdV, e, ← ha, ← hb, ← hc, ← hn, ← hsn]
    refine w_words_of hk fun t b2 hb2 nb fb => ?_
    obtain ⟨r, hr⟩ := wds_cons hk
    rw [hr] at hb2
    simp only [List.map_cons] at hb2
    have k := k t (by top_name)
    rw [ek] at k
    tb_start
    refine sel_i (fun c => ?_) (fun c => ?_)
    · rw [if_pos c] at k
      tb_start
      try exact k
    · rw [if_neg c] at k
      tb_start
      try exact k
  · rw [e]
    refine atK_i (v := .str "left") (by rfl) ?_
    tb_start
    refine r_lc ?_
    tb_start
    refine u_fields_of ?_
    unfold c_fields_of
    tb_start
    refine gd_i ⟨_, rfl⟩ ?_
    refine wlc_k [.str "a", .str "b", .str "c"] (fun _ => rfl) (by decide) ?_
    tb_start
    refine u_field_in ?_
    unfold c_field_in
    tb_start
    refine w_r3 (r := a) ha.symm ?_
    tb_start
    refine u_field_in ?_
    unfold c_field_in
    tb_start
    refine w_r3 (r := b) hb.symm ?_
    tb_start
    refine u_field_in ?_
    unfold c_field_in
    tb_start
    refine w_r3 (r := c) hc.symm ?_
    tb_start
    have hk : InsOk "left" [a, b, c] := .three (by simp) a0 a1 b0 b1 c0 c1
    have ek : insAt code p = if wds1 "left" [a, b, c] = w then some ("left", [a, b, c]) else none := by simp [insAt_in p0 p1 hw, dec, rdV, e, ← ha, ← hb, ← hc, ← hn, ← hsn]
    refine w_words_of hk fun t b2 hb2 nb fb => ?_
    obtain ⟨r, hr⟩ := wds_cons hk
    rw [hr] at hb2
    simp only [List.map_cons] at hb2
    have k := k t (by top_name)
    rw [ek] at k
    tb_start
    refine sel_i (fun c => ?_) (fun c => ?_)
    · rw [if_pos c] at k
      tb_start
      try exact k
    · rw [if_neg c] at k
      tb_start
      try exact k
  · rw [e]
    refine atK_i (v := .str "right") (by rfl) ?_
    tb_start
    refine r_lc ?_
    tb_start
    refine u_fields_of ?_
    unfold c_fields_of
    tb_start
    refine gd_i ⟨_, rfl⟩ ?_
    refine wlc_k [.str "a", .str "b", .str "c"] (fun _ => rfl) (by decide) ?_
    tb_start
    refine u_field_in ?_
    unfold c_field_in
    tb_start
    refine w_r3 (r := a) ha.symm ?_
    tb_start
    refine u_field_in ?_
    unfold c_field_in
    tb_start
    refine w_r3 (r := b) hb.symm ?_
    tb_start
    refine u_field_in ?_
    unfold c_field_in
    tb_start
    refine w_r3 (r := c) hc.symm ?_
    tb_start
    have hk : InsOk "right" [a, b, c] := .three (by simp) a0 a1 b0 b1 c0 c1
    have ek : insAt code p = if wds1 "right" [a, b, c] = w then some ("right", [a, b, c]) else none := by simp [insAt_in p0 p1 hw, dec, rdV, e, ← ha, ← hb, ← hc, ← hn, ← hsn]
    refine w_words_of hk fun t b2 hb2 nb fb => ?_
    obtain ⟨r, hr⟩ := wds_cons hk
    rw [hr] at hb2
    simp only [List.map_cons] at hb2
    have k := k t (by top_name)
    rw [ek] at k
    tb_start
    refine sel_i (fun c => ?_) (fun c => ?_)
    · rw [if_pos c] at k
      tb_start
      try exact k
    · rw [if_neg c] at k
      tb_start
      try exact k
  · rw [e]
    refine atK_i (v := .str "more") (by rfl) ?_
    tb_start
    refine r_lc ?_
    tb_start
    refine u_fields_of ?_
    unfold c_fields_of
    tb_start
    refine gd_i ⟨_, rfl⟩ ?_
    refine wlc_k [.str "a", .str "b", .str "n"] (fun _ => rfl) (by decide) ?_
    tb_start
    refine u_field_in ?_
    unfold c_field_in
    tb_start
    refine w_r3 (r := a) ha.symm ?_
    tb_start
    refine u_field_in ?_
    unfold c_field_in
    tb_start
    refine w_r3 (r := b) hb.symm ?_
    tb_start
    refine u_field_in ?_
    unfold c_field_in
    tb_start
    refine w_r18 (r := n) hn.symm ?_
    tb_start
    refine w_signed18 hsn n0 n1 ?_
    tb_start
    have hk : InsOk "more" [a, b, sn] := .more (by simp) a0 a1 b0 b1 sn0 sn1
    have ek : insAt code p = if wds1 "more" [a, b, sn] = w then some ("more", [a, b, sn]) else none := by simp [insAt_in p0 p1 hw, dec, rdV, e, ← ha, ← hb, ← hc, ← hn, ← hsn]
    refine w_words_of hk fun t b2 hb2 nb fb => ?_
    obtain ⟨r, hr⟩ := wds_cons hk
    rw [hr] at hb2
    simp only [List.map_cons] at hb2
    have k := k t (by top_name)
    rw [ek] at k
    tb_start
    refine sel_i (fun c => ?_) (fun c => ?_)
    · rw [if_pos c] at k
      tb_start
      try exact k
    · rw [if_neg c] at k
      tb_start
      try exact k
  · rw [e]
    refine atK_i (v := .str "load") (by rfl) ?_
    tb_start
    refine r_lc ?_
    tb_start
    refine u_fields_of ?_
    unfold c_fields_of
    tb_start
    refine gd_i ⟨_, rfl⟩ ?_
    refine wlc_k [.str "a", .str "b", .str "n"] (fun _ => rfl) (by decide) ?_
    tb_start
    refine u_field_in ?_
    unfold c_field_in
    tb_start
    refine w_r3 (r := a) ha.symm ?_
    tb_start
    refine u_field_in ?_
    unfold c_field_in
    tb_start
    refine w_r3 (r := b) hb.symm ?_
    tb_start
    refine u_field_in ?_
    unfold c_field_in
    tb_start
    refine w_r18 (r := n) hn.symm ?_
    tb_start
    refine w_signed18 hsn n0 n1 ?_
    tb_start
    have hk : InsOk "load" [a, b, sn] := .more (by simp) a0 a1 b0 b1 sn0 sn1
    have ek : insAt code p = if wds1 "load" [a, b, sn] = w then some ("load", [a, b, sn]) else none := by simp [insAt_in p0 p1 hw, dec, rdV, e, ← ha, ← hb, ← hc, ← hn, ← hsn]
    refine w_words_of hk fun t b2 hb2 nb fb => ?_
    obtain ⟨r, hr⟩ := wds_cons hk
    rw [hr] at hb2
    simp only [List.map_cons] at hb2
    have k := k t (by top_name)
    rw [ek] at k
    tb_start
    refine sel_i (fun c => ?_) (fun c => ?_)
    · rw [if_pos c] at k
      tb_start
      try exact k
    · rw [if_neg c] at k
      tb_start
      try exact k
  · rw [e]
    refine atK_i (v := .str "store") (by rfl) ?_
    tb_start
    refine r_lc ?_
    tb_start
    refine u_fields_of ?_
    unfold c_fields_of
    tb_start
    refine gd_i ⟨_, rfl⟩ ?_
    refine wlc_k [.str "a", .str "b", .str "n"] (fun _ => rfl) (by decide) ?_
    tb_start
    refine u_field_in ?_
    unfold c_field_in
    tb_start
    refine w_r3 (r := a) ha.symm ?_
    tb_start
    refine u_field_in ?_
    unfold c_field_in
    tb_start
    refine w_r3 (r := b) hb.symm ?_
    tb_start
    refine u_field_in ?_
    unfold c_field_in
    tb_start
    refine w_r18 (r := n) hn.symm ?_
    tb_start
    refine w_signed18 hsn n0 n1 ?_
    tb_start
    have hk : InsOk "store" [a, b, sn] := .more (by simp) a0 a1 b0 b1 sn0 sn1
    have ek : insAt code p = if wds1 "store" [a, b, sn] = w then some ("store", [a, b, sn]) else none := by simp [insAt_in p0 p1 hw, dec, rdV, e, ← ha, ← hb, ← hc, ← hn, ← hsn]
    refine w_words_of hk fun t b2 hb2 nb fb => ?_
    obtain ⟨r, hr⟩ := wds_cons hk
    rw [hr] at hb2
    simp only [List.map_cons] at hb2
    have k := k t (by top_name)
    rw [ek] at k
    tb_start
    refine sel_i (fun c => ?_) (fun c => ?_)
    · rw [if_pos c] at k
      tb_start
      try exact k
    · rw [if_neg c] at k
      tb_start
      try exact k
  · rw [e]
    refine atK_i (v := .str "jump") (by rfl) ?_
    tb_start
    refine r_lc ?_
    tb_start
    refine u_fields_of ?_
    unfold c_fields_of
    tb_start
    refine gd_i ⟨_, rfl⟩ ?_
    refine wlc_k [.str "n"] (fun _ => rfl) (by decide) ?_
    tb_start
    refine u_field_in ?_
    unfold c_field_in
    tb_start
    refine w_r18 (r := n) hn.symm ?_
    tb_start
    have hk : InsOk "jump" [n] := .place (by simp) n0 n1
    have ek : insAt code p = if wds1 "jump" [n] = w then some ("jump", [n]) else none := by simp [insAt_in p0 p1 hw, dec, rdV, e, ← ha, ← hb, ← hc, ← hn, ← hsn]
    refine w_words_of hk fun t b2 hb2 nb fb => ?_
    obtain ⟨r, hr⟩ := wds_cons hk
    rw [hr] at hb2
    simp only [List.map_cons] at hb2
    have k := k t (by top_name)
    rw [ek] at k
    tb_start
    refine sel_i (fun c => ?_) (fun c => ?_)
    · rw [if_pos c] at k
      tb_start
      try exact k
    · rw [if_neg c] at k
      tb_start
      try exact k
  · rw [e]
    refine atK_i (v := .str "jumpif") (by rfl) ?_
    tb_start
    refine r_lc ?_
    tb_start
    refine u_fields_of ?_
    unfold c_fields_of
    tb_start
    refine gd_i ⟨_, rfl⟩ ?_
    refine wlc_k [.str "a", .str "n"] (fun _ => rfl) (by decide) ?_
    tb_start
    refine u_field_in ?_
    unfold c_field_in
    tb_start
    refine w_r3 (r := a) ha.symm ?_
    tb_start
    refine u_field_in ?_
    unfold c_field_in
    tb_start
    refine w_r18 (r := n) hn.symm ?_
    tb_start
    have hk : InsOk "jumpif" [a, n] := .jumpif a0 a1 n0 n1
    have ek : insAt code p = if wds1 "jumpif" [a, n] = w then some ("jumpif", [a, n]) else none := by simp [insAt_in p0 p1 hw, dec, rdV, e, ← ha, ← hb, ← hc, ← hn, ← hsn]
    refine w_words_of hk fun t b2 hb2 nb fb => ?_
    obtain ⟨r, hr⟩ := wds_cons hk
    rw [hr] at hb2
    simp only [List.map_cons] at hb2
    have k := k t (by top_name)
    rw [ek] at k
    tb_start
    refine sel_i (fun c => ?_) (fun c => ?_)
    · rw [if_pos c] at k
      tb_start
      try exact k
    · rw [if_neg c] at k
      tb_start
      try exact k
  · rw [e]
    refine atK_i (v := .str "through") (by rfl) ?_
    tb_start
    refine r_lc ?_
    tb_start
    refine u_fields_of ?_
    unfold c_fields_of
    tb_start
    refine gd_i ⟨_, rfl⟩ ?_
    refine wlc_k [.str "b"] (fun _ => rfl) (by decide) ?_
    tb_start
    refine u_field_in ?_
    unfold c_field_in
    tb_start
    refine w_r3 (r := b) hb.symm ?_
    tb_start
    have hk : InsOk "through" [b] := .through b0 b1
    have ek : insAt code p = if wds1 "through" [b] = w then some ("through", [b]) else none := by simp [insAt_in p0 p1 hw, dec, rdV, e, ← ha, ← hb, ← hc, ← hn, ← hsn]
    refine w_words_of hk fun t b2 hb2 nb fb => ?_
    obtain ⟨r, hr⟩ := wds_cons hk
    rw [hr] at hb2
    simp only [List.map_cons] at hb2
    have k := k t (by top_name)
    rw [ek] at k
    tb_start
    refine sel_i (fun c => ?_) (fun c => ?_)
    · rw [if_pos c] at k
      tb_start
      try exact k
    · rw [if_neg c] at k
      tb_start
      try exact k
  · rw [e]
    refine atK_i (v := .str "fit") (by rfl) ?_
    tb_start
    refine r_lc ?_
    tb_start
    refine u_fields_of ?_
    unfold c_fields_of
    tb_start
    refine gd_i ⟨_, rfl⟩ ?_
    refine wlc_k [.str "a", .str "b"] (fun _ => rfl) (by decide) ?_
    tb_start
    refine u_field_in ?_
    unfold c_field_in
    tb_start
    refine w_r3 (r := a) ha.symm ?_
    tb_start
    refine u_field_in ?_
    unfold c_field_in
    tb_start
    refine w_r3 (r := b) hb.symm ?_
    tb_start
    have hk : InsOk "fit" [a, b] := .two (by simp) a0 a1 b0 b1
    have ek : insAt code p = if wds1 "fit" [a, b] = w then some ("fit", [a, b]) else none := by simp [insAt_in p0 p1 hw, dec, rdV, e, ← ha, ← hb, ← hc, ← hn, ← hsn]
    refine w_words_of hk fun t b2 hb2 nb fb => ?_
    obtain ⟨r, hr⟩ := wds_cons hk
    rw [hr] at hb2
    simp only [List.map_cons] at hb2
    have k := k t (by top_name)
    rw [ek] at k
    tb_start
    refine sel_i (fun c => ?_) (fun c => ?_)
    · rw [if_pos c] at k
      tb_start
      try exact k
    · rw [if_neg c] at k
      tb_start
      try exact k
  · rw [e]
    refine atK_i (v := .str "aim") (by rfl) ?_
    tb_start
    refine r_lc ?_
    tb_start
    refine u_fields_of ?_
    unfold c_fields_of
    tb_start
    refine gd_i ⟨_, rfl⟩ ?_
    refine wlc_k [.str "a", .str "b"] (fun _ => rfl) (by decide) ?_
    tb_start
    refine u_field_in ?_
    unfold c_field_in
    tb_start
    refine w_r3 (r := a) ha.symm ?_
    tb_start
    refine u_field_in ?_
    unfold c_field_in
    tb_start
    refine w_r3 (r := b) hb.symm ?_
    tb_start
    have hk : InsOk "aim" [a, b] := .two (by simp) a0 a1 b0 b1
    have ek : insAt code p = if wds1 "aim" [a, b] = w then some ("aim", [a, b]) else none := by simp [insAt_in p0 p1 hw, dec, rdV, e, ← ha, ← hb, ← hc, ← hn, ← hsn]
    refine w_words_of hk fun t b2 hb2 nb fb => ?_
    obtain ⟨r, hr⟩ := wds_cons hk
    rw [hr] at hb2
    simp only [List.map_cons] at hb2
    have k := k t (by top_name)
    rw [ek] at k
    tb_start
    refine sel_i (fun c => ?_) (fun c => ?_)
    · rw [if_pos c] at k
      tb_start
      try exact k
    · rw [if_neg c] at k
      tb_start
      try exact k
  · rw [e]
    refine atK_i (v := .str "gate") (by rfl) ?_
    tb_start
    refine r_lc ?_
    tb_start
    refine u_fields_of ?_
    unfold c_fields_of
    tb_start
    refine gd_i ⟨_, rfl⟩ ?_
    refine wlc_k [.str "n"] (fun _ => rfl) (by decide) ?_
    tb_start
    refine u_field_in ?_
    unfold c_field_in
    tb_start
    refine w_r18 (r := n) hn.symm ?_
    tb_start
    have hk : InsOk "gate" [n] := .place (by simp) n0 n1
    have ek : insAt code p = if wds1 "gate" [n] = w then some ("gate", [n]) else none := by simp [insAt_in p0 p1 hw, dec, rdV, e, ← ha, ← hb, ← hc, ← hn, ← hsn]
    refine w_words_of hk fun t b2 hb2 nb fb => ?_
    obtain ⟨r, hr⟩ := wds_cons hk
    rw [hr] at hb2
    simp only [List.map_cons] at hb2
    have k := k t (by top_name)
    rw [ek] at k
    tb_start
    refine sel_i (fun c => ?_) (fun c => ?_)
    · rw [if_pos c] at k
      tb_start
      try exact k
    · rw [if_neg c] at k
      tb_start
      try exact k
  --@end
end
end P

set_option Elab.async false
set_option linter.all false
set_option maxRecDepth 100000
set_option maxHeartbeats 4000000
/-! what instructions make of values (no program in sight) -/
namespace P
open PySem L2 G
theorem or_and (n : Nat) : ∀ a b : Nat, a < 2 ^ n → b < 2 ^ n → (a ||| b) + (a &&& b) = a + b ∧ (a ^^^ b) + 2 * (a &&& b) = a + b := by
  induction n with
  | zero =>
    intro a b ha hb
    have h1 : a = 0 := by omega
    have h2 : b = 0 := by omega
    subst h1 h2
    exact ⟨rfl, rfl⟩
  | succ n ih =>
    intro a b ha hb
    have hp : 2 ^ (n + 1) = 2 * 2 ^ n := by rw [Nat.pow_succ]; omega
    obtain ⟨i1, i2⟩ := ih (a / 2) (b / 2) (by omega) (by omega)
    have d1 : (a &&& b) / 2 = a / 2 &&& b / 2 := Nat.and_div_two
    have d2 : (a ||| b) / 2 = a / 2 ||| b / 2 := Nat.or_div_two
    have d3 : (a ^^^ b) / 2 = a / 2 ^^^ b / 2 := Nat.xor_div_two
    have m1 : (a &&& b) % 2 = 1 ↔ a % 2 = 1 ∧ b % 2 = 1 := Nat.and_mod_two_eq_one
    have m2 : (a ||| b) % 2 = 1 ↔ a % 2 = 1 ∨ b % 2 = 1 := Nat.or_mod_two_eq_one
    have m3 : (a ^^^ b) % 2 = 1 ↔ ¬(a % 2 = 1 ↔ b % 2 = 1) := Nat.xor_mod_two_eq_one
    rw [← d1, ← d2] at i1
    rw [← d1, ← d3] at i2
    generalize a &&& b = x at *
    generalize a ||| b = y at *
    generalize a ^^^ b = w at *
    clear ih ha hb hp d1 d2 d3
    by_cases ca : a % 2 = 1 <;> by_cases cb : b % 2 = 1 <;> simp only [ca, cb, true_and, and_true, true_or, or_true, or_self, and_self, iff_true, true_iff, not_true_eq_false, iff_self, false_and, false_or, and_false, or_false, iff_false, false_iff, not_false_eq_true, Classical.not_not] at m1 m2 m3 <;> constructor <;> omega
/-- of two values bit by bit -/
def andI (v w : Int) : Int := ((v.toNat &&& w.toNat : Nat) : Int)
def orI (v w : Int) : Int := ((v.toNat ||| w.toNat : Nat) : Int)
def xorI (v w : Int) : Int := ((v.toNat ^^^ w.toNat : Nat) : Int)
section
variable {v w : Int} (hv : 0 ≤ v) (hw : 0 ≤ w)
include hv hw
theorem and_of : Builtin.bitAnd v w = andI v w := by
  unfold Builtin.bitAnd andI
  rw [decide_eq_true hv, decide_eq_true hw]
theorem or_of : Builtin.bitOr v w = orI v w := by
  exact Bits.bitOr_pp hv hw
theorem xor_of : Builtin.bitXor v w = xorI v w := by
  exact Bits.bitXor_pp hv hw
theorem or_eq : orI v w = v + w - andI v w := by
  have h1 := lt_pow (v.toNat + w.toNat)
  obtain ⟨a, _⟩ := or_and (v.toNat + w.toNat) v.toNat w.toNat (by omega) (by omega)
  unfold orI andI
  omega
theorem xor_eq : xorI v w = v + w - 2 * andI v w := by
  have h1 := lt_pow (v.toNat + w.toNat)
  obtain ⟨_, a⟩ := or_and (v.toNat + w.toNat) v.toNat w.toNat (by omega) (by omega)
  unfold xorI andI
  omega
omit hv hw
theorem and_0 : 0 ≤ andI v w := Int.natCast_nonneg _
theorem or_0 : 0 ≤ orI v w := Int.natCast_nonneg _
theorem xor_0 : 0 ≤ xorI v w := Int.natCast_nonneg _
include hv hw
theorem and_l : andI v w ≤ v := by
  have := Nat.and_le_left (n := v.toNat) (m := w.toNat)
  unfold andI; omega
theorem and_r : andI v w ≤ w := by
  have := Nat.and_le_right (n := v.toNat) (m := w.toNat)
  unfold andI; omega
theorem or_l : v ≤ orI v w := by
  have := Nat.left_le_or (n := v.toNat) (m := w.toNat)
  unfold orI; omega
theorem or_r : w ≤ orI v w := by
  have := Nat.right_le_or (n := v.toNat) (m := w.toNat)
  unfold orI; omega
omit hv hw
theorem p2_nat {z : Int} : p2 z = ((2 ^ z.toNat : Nat) : Int) := by unfold p2; rw [pow_nat]
theorem nat_mod (hv : 0 ≤ v) {z : Int} : v % p2 z = 0 ↔ v.toNat % 2 ^ z.toNat = 0 := by
  rw [p2_nat]
  have : v = (v.toNat : Int) := by omega
  rw [this, ← Int.natCast_emod, Int.toNat_natCast]
  omega
theorem nat_lt (hv : 0 ≤ v) {z : Int} : v < p2 z ↔ v.toNat < 2 ^ z.toNat := by
  rw [p2_nat]
  omega
include hv hw
theorem and_m {z : Int} (h : v % p2 z = 0) : andI v w % p2 z = 0 := by
  rw [nat_mod hv] at h
  rw [nat_mod and_0]
  unfold andI
  rw [Int.toNat_natCast, Nat.and_mod_two_pow, h, Nat.zero_and]
theorem and_m' {z : Int} (h : w % p2 z = 0) : andI v w % p2 z = 0 := by
  rw [nat_mod hw] at h
  rw [nat_mod and_0]
  unfold andI
  rw [Int.toNat_natCast, Nat.and_mod_two_pow, h, Nat.and_zero]
theorem or_m {z : Int} (h : v % p2 z = 0) (h' : w % p2 z = 0) : orI v w % p2 z = 0 := by
  rw [nat_mod hv] at h
  rw [nat_mod hw] at h'
  rw [nat_mod or_0]
  unfold orI
  rw [Int.toNat_natCast, Nat.or_mod_two_pow, h, h', Nat.zero_or]
theorem xor_m {z : Int} (h : v % p2 z = 0) (h' : w % p2 z = 0) : xorI v w % p2 z = 0 := by
  rw [nat_mod hv] at h
  rw [nat_mod hw] at h'
  rw [nat_mod xor_0]
  unfold xorI
  rw [Int.toNat_natCast, Nat.xor_mod_two_pow, h, h', Nat.xor_self]
theorem or_lt {z : Int} (h : v < p2 z) (h' : w < p2 z) : orI v w < p2 z := by
  rw [nat_lt hv] at h
  rw [nat_lt hw] at h'
  rw [nat_lt or_0]
  unfold orI
  rw [Int.toNat_natCast]
  exact Nat.or_lt_two_pow h h'
theorem xor_lt {z : Int} (h : v < p2 z) (h' : w < p2 z) : xorI v w < p2 z := by
  rw [nat_lt hv] at h
  rw [nat_lt hw] at h'
  rw [nat_lt xor_0]
  unfold xorI
  rw [Int.toNat_natCast]
  exact Nat.xor_lt_two_pow h h'
end
def bitI (sort : String) (v w : Int) : Int := if sort = "and" then andI v w else if sort = "or" then orI v w else xorI v w
theorem bitI_bd {x : String} {v w : Int} (hv : 0 ≤ v) (hw : 0 ≤ w) (hv1 : v < 4294967296) (hw1 : w < 4294967296) : 0 ≤ bitI x v w ∧ bitI x v w < 4294967296 := by
  have a := and_l hv hw
  have a0 := and_0 (v := v) (w := w)
  have b : orI v w < 4294967296 := or_lt (z := 32) hv hw hv1 hw1
  have c : xorI v w < 4294967296 := xor_lt (z := 32) hv hw hv1 hw1
  have b0 := or_0 (v := v) (w := w)
  have c0 := xor_0 (v := v) (w := w)
  unfold bitI
  split
  · omega
  · split <;> omega
def shI (x : String) (v w : Int) : Int := if x = "less" then (if v < w then 1 else 0) else if x = "left" then (v * p2 (w % 32)) % 4294967296 else v / p2 (w % 32)
theorem shI_bd {x : String} {v w : Int} (hv : 0 ≤ v) (hv1 : v < 4294967296) : 0 ≤ shI x v w ∧ shI x v w < 4294967296 := by
  unfold shI
  split
  · split <;> omega
  · split
    · exact ⟨mod_lo (by decide), mod_hi (by decide)⟩
    · have := div_bd hv (p2_pos (z := w % 32))
      omega
def isSh (x : String) : Prop := x = "less" ∨ x = "left" ∨ x = "right"
structure PlanOk (k b m s g : Int) : Prop where
  k0 : 0 ≤ k
  k1 : k ≤ 20
  b0 : 0 ≤ b
  bm : b % p2 k = 0
  b1 : b + p2 k ≤ 4294967296
  m0 : 0 ≤ m
  s0 : 0 ≤ s
  ms : m + s ≤ 7
  g0 : 0 ≤ g
  g1 : g ≤ 16
abbrev planD (k b m s g : Int) : D := .tup [.int k, .int b, .int m, .int s, .int g]
def fitI (k b v : Int) : Int := b + v % p2 k
def aimI (m s v : Int) : Int := v % p2 m * (8 * p2 s)
theorem fit_id {k b v : Int} (bm : b % p2 k = 0) (h0 : b ≤ v) (h1 : v < b + p2 k) : fitI k b v = v := by
  have : v % p2 k = v - b := by
    have e : v = (v - b) + b := by omega
    have := Int.add_emod (v - b) b (p2 k)
    rw [bm, Int.add_zero, Int.emod_emod_of_dvd _ (Int.dvd_refl _)] at this
    rw [show v - b + b = v by omega] at this
    rw [this]
    exact Int.emod_eq_of_lt (by omega) (by omega)
  unfold fitI
  omega
theorem p2_8 {s : Int} (h : 0 ≤ s) : p2 (s + 3) = 8 * p2 s := by
  rw [p2_add h (by decide)]
  show p2 s * 8 = _
  omega
theorem aim_bd {m s v : Int} (m0 : 0 ≤ m) (s0 : 0 ≤ s) (ms : m + s ≤ 7) : 0 ≤ aimI m s v ∧ aimI m s v ≤ (p2 m - 1) * (8 * p2 s) ∧ (p2 m - 1) * (8 * p2 s) < 1024 ∧ aimI m s v % p2 (s + 3) = 0 := by
  have h1 := p2_pos (z := m)
  have h2 := p2_pos (z := s)
  have a := mod_lo (x := v) h1
  have b := mod_hi (x := v) h1
  have e : p2 m * p2 s ≤ 128 := by rw [← p2_add m0 s0]; exact p2_le (b := 7) ms
  have e2 : (p2 m - 1) * (8 * p2 s) = 8 * (p2 m * p2 s) - 8 * p2 s := by rw [Int.sub_mul, Int.one_mul]; congr 1; ac_rfl
  refine ⟨Int.mul_nonneg a (by omega), Int.mul_le_mul_of_nonneg_right (by omega) (by omega), by omega, ?_⟩
  rw [p2_8 s0]
  exact Int.mul_emod_left _ _
/-- what a word makes of two values -/
def valI (x : String) (v w : Int) : Int := if x = "add" then (v + w) % 4294967296 else if x = "sub" then (v - w) % 4294967296 else if x = "and" ∨ x = "or" ∨ x = "xor" then bitI x v w else shI x v w
def isW (x : String) : Prop := x = "add" ∨ x = "sub" ∨ (x = "and" ∨ x = "or" ∨ x = "xor") ∨ isSh x
/-- a mask of the last bits is the rest -/
theorem mask_of {v z : Int} (z0 : 0 ≤ z) : Builtin.bitAnd v (p2 z - 1) = v % p2 z := by
  by_cases h : 0 ≤ v
  · have hp := p2_pos (z := z)
    have e1 : (p2 z - 1).toNat = 2 ^ z.toNat - 1 := by
      have : 0 < 2 ^ z.toNat := Nat.pow_pos (by decide)
      rw [p2_nat]
      omega
    unfold Builtin.bitAnd
    rw [decide_eq_true h, decide_eq_true (by omega : 0 ≤ p2 z - 1)]
    simp only [e1, Nat.and_two_pow_sub_one_eq_mod]
    rw [Int.natCast_emod, ← p2_nat, Int.toNat_of_nonneg h]
  · have hp := p2_pos (z := z)
    obtain ⟨n, rfl⟩ : ∃ n : Nat, v = -((n : Int) + 1) := ⟨(-v - 1).toNat, by omega⟩
    have e1 : p2 z - 1 = ((2 ^ z.toNat - 1 : Nat) : Int) := by
      have : 0 < 2 ^ z.toNat := Nat.pow_pos (by decide)
      rw [p2_nat]
      omega
    have e2 : Builtin.bitAnd (-((n : Int) + 1)) (p2 z - 1) = (p2 z - 1) - (((p2 z - 1).toNat &&& n : Nat) : Int) := by
      unfold Builtin.bitAnd
      rw [decide_eq_false h, decide_eq_true (by omega : 0 ≤ p2 z - 1)]
      have : (Builtin.bitNot (-((n : Int) + 1))).toNat = n := by unfold Builtin.bitNot; omega
      simp only [this]
    rw [e2]
    have e3 : ((p2 z - 1).toNat &&& n) = n % 2 ^ z.toNat := by
      rw [e1, Int.toNat_natCast, Nat.and_comm, Nat.and_two_pow_sub_one_eq_mod]
    rw [e3, Int.natCast_emod]
    have e4 : ((2 ^ z.toNat : Nat) : Int) = p2 z := p2_nat.symm
    rw [e4]
    have a := mod_lo (x := (n : Int)) hp
    have b := mod_hi (x := (n : Int)) hp
    have d := Int.emod_add_mul_ediv (n : Int) (p2 z)
    have e5 : -((n : Int) + 1) = (p2 z - 1 - (n : Int) % p2 z) + p2 z * (-((n : Int) / p2 z) - 1) := by
      rw [Int.mul_sub, Int.mul_neg, Int.mul_one]
      omega
    rw [e5, Int.add_mul_emod_self_left, Int.emod_eq_of_lt (a := p2 z - 1 - (n : Int) % p2 z) (by omega) (by omega)]
@[simp] theorem mask32 {v : Int} : Builtin.bitAnd v 4294967295 = v % 4294967296 := mask_of (z := 32) (by decide)
@[simp] theorem mask31 {v : Int} : Builtin.bitAnd v 31 = v % 32 := mask_of (z := 5) (by decide)
end P

set_option Elab.async false
set_option linter.all false
set_option maxRecDepth 100000
set_option maxHeartbeats 4000000
/-! memories, and what a machine does, plainly -/
namespace P
open PySem L2 G
abbrev Mem := List (Int × Int)
def kI (k : Int) : Key := .inl k
def mD (M : Mem) : List (Key × D) := M.map fun p => (kI p.1, D.int p.2)
def getM (M : Mem) (k : Int) : Int := ((M.find? fun p => decide (p.1 = k)).map (·.2)).getD 0
def putM (M : Mem) (k v : Int) : Mem := if (M.any fun p => decide (p.1 = k)) = true then M.map (fun p => if p.1 = k then (p.1, v) else p) else M ++ [(k, v)]
def mergeM (M N : Mem) : Mem := N.foldl (fun a p => putM a p.1 p.2) M
theorem kI_inj {a b : Int} : (kI a = kI b) = (a = b) := by unfold kI; simp
theorem val_mD {M : Mem} {k : Int} : valD (mD M) (.inl k) = (M.find? fun p => decide (p.1 = k)).map fun p => D.int p.2 := by
  unfold valD mD
  rw [List.find?_map, Option.map_map]
  have e : ((fun kv : Key × D => decide (kv.1 = Sum.inl k)) ∘ fun p : Int × Int => (kI p.1, D.int p.2)) = fun p => decide (p.1 = k) := by
    funext p
    show decide (kI p.1 = kI k) = _
    simp only [kI_inj]
  rw [e]
  rfl
theorem get_mD {M : Mem} {k : Int} : (valD (mD M) (.inl k)).getD (.int 0) = .int (getM M k) := by
  rw [val_mD]
  unfold getM
  cases M.find? fun p => decide (p.1 = k) <;> rfl
theorem put_mD {M : Mem} {k v : Int} : putD (mD M) (.inl k) (.int v) = mD (putM M k v) := by
  have e1 : ((mD M).any fun kv => decide (kv.1 = Sum.inl k)) = M.any fun p => decide (p.1 = k) := by
    unfold mD
    rw [List.any_map]
    congr 1
    funext p
    show decide (kI p.1 = kI k) = _
    simp only [kI_inj]
  unfold putD putM
  rw [e1]
  split
  · unfold mD
    rw [List.map_map, List.map_map]
    congr 1
    funext p
    show (if kI p.1 = kI k then (kI p.1, D.int v) else (kI p.1, D.int p.2)) = (fun q : Int × Int => (kI q.1, D.int q.2)) (if p.1 = k then (p.1, v) else p)
    by_cases c : p.1 = k
    · rw [if_pos (by rw [c]), if_pos c]
    · rw [if_neg (by rw [kI_inj]; exact c), if_neg c]
  · unfold mD
    rw [List.map_append]
    rfl
theorem merge_mD {N : Mem} : ∀ {M : Mem}, mergeD (mD M) (mD N) = mD (mergeM M N) := by
  induction N with
  | nil => intro M; rfl
  | cons p N ih =>
    intro M
    show mergeD (putD (mD M) (kI p.1) (.int p.2)) (mD N) = mD (mergeM (putM M p.1 p.2) N)
    rw [← ih, ← put_mD]
    rfl
theorem mD_len {M : Mem} : (mD M).length = M.length := by unfold mD; simp
theorem putM_len {M : Mem} {k v : Int} : (putM M k v).length ≤ M.length + 1 := by
  unfold putM
  split <;> simp
theorem mergeM_len {N : Mem} : ∀ {M : Mem}, (mergeM M N).length ≤ M.length + N.length := by
  induction N with
  | nil => intro M; exact Nat.le_refl _
  | cons p N ih =>
    intro M
    have a := ih (M := putM M p.1 p.2)
    have b := putM_len (M := M) (k := p.1) (v := p.2)
    show (mergeM (putM M p.1 p.2) N).length ≤ _
    simp only [List.length_cons]
    omega
/-- a value -/
def V32 (v : Int) : Prop := 0 ≤ v ∧ v < 4294967296
def MemOk (M : Mem) : Prop := ∀ p ∈ M, V32 p.2
theorem MemOk.nil : MemOk [] := fun _ h => by cases h
theorem MemOk.get {M : Mem} (h : MemOk M) {k : Int} : V32 (getM M k) := by
  unfold getM
  cases e : M.find? fun p => decide (p.1 = k) with
  | none => exact ⟨by decide, by decide⟩
  | some p => exact h p (List.mem_of_find?_eq_some e)
theorem MemOk.put {M : Mem} (h : MemOk M) {k v : Int} (hv : V32 v) : MemOk (putM M k v) := by
  unfold putM
  split
  · intro p hp
    obtain ⟨q, hq, rfl⟩ := List.mem_map.mp hp
    split
    · exact hv
    · exact h q hq
  · intro p hp
    rcases List.mem_append.mp hp with q | q
    · exact h p q
    · rw [List.mem_singleton.mp q]; exact hv
theorem MemOk.merge {N : Mem} (hn : MemOk N) : ∀ {M : Mem}, MemOk M → MemOk (mergeM M N) := by
  induction N with
  | nil => exact fun h => h
  | cons p N ih =>
    intro M h
    exact ih (fun q hq => hn q (List.mem_cons_of_mem _ hq)) (h.put (hn p List.mem_cons_self))
theorem val_at {M : Mem} (nd : (M.map (·.1)).Nodup) {p : Int × Int} (hp : p ∈ M) : valD (mD M) (.inl p.1) = some (.int p.2) := by
  rw [val_mD]
  have : M.find? (fun q => decide (q.1 = p.1)) = some p := by
    induction M with
    | nil => cases hp
    | cons m M ih =>
      simp only [List.map_cons, List.nodup_cons] at nd
      rcases List.mem_cons.mp hp with rfl | h
      · rw [List.find?_cons_of_pos (by simp)]
      · have ne : m.1 ≠ p.1 := fun z => nd.1 (by rw [z]; exact List.mem_map.mpr ⟨p, h, rfl⟩)
        rw [List.find?_cons_of_neg (by simpa using ne)]
        exact ih nd.2 h
  rw [this]
  rfl
/-- the same entries in the same order are alike -/
theorem alike_mD {M : Mem} (nd : (M.map (·.1)).Nodup) : alikeD (mD M) (mD M) = true := by
  unfold alikeD
  simp only [decide_true, Bool.true_and, List.all_eq_true]
  intro q hq
  unfold mD at hq
  obtain ⟨p, hp, rfl⟩ := List.mem_map.mp hq
  have e : valD (mD M) (kI p.1) = some (.int p.2) := by
    unfold kI
    rw [val_mD]
    have : M.find? (fun q => decide (q.1 = p.1)) = some p := by
      clear hq
      induction M with
      | nil => cases hp
      | cons m M ih =>
        simp only [List.map_cons, List.nodup_cons] at nd
        rcases List.mem_cons.mp hp with rfl | h
        · rw [List.find?_cons_of_pos (by simp)]
        · have ne : m.1 ≠ p.1 := fun z => nd.1 (by rw [z]; exact List.mem_map.mpr ⟨p, h, rfl⟩)
          rw [List.find?_cons_of_neg (by simpa using ne)]
          exact ih nd.2 h
    rw [this]
    rfl
  simp only [e]
  show (flatD (.int p.2) && decide (eqS (.int p.2) (.int p.2) = some true)) = true
  simp [flatD, eqS]
theorem put_nd {M : Mem} (nd : (M.map (·.1)).Nodup) {k v : Int} : ((putM M k v).map (·.1)).Nodup := by
  unfold putM
  split
  · have e : (M.map (fun p => if p.1 = k then (p.1, v) else p)).map (·.1) = M.map (·.1) := by
      rw [List.map_map]
      congr 1
      funext p
      show (if p.1 = k then (p.1, v) else p).1 = p.1
      split <;> rfl
    rw [e]
    exact nd
  · rename_i h
    rw [List.map_append, List.nodup_append]
    refine ⟨nd, by simp, fun a ha b hb q => h ?_⟩
    have hb : b = k := by simpa using hb
    obtain ⟨p, hp, rfl⟩ := List.mem_map.mp ha
    exact List.any_eq_true.mpr ⟨p, hp, by rw [q, hb]; simp⟩
theorem merge_nd {N : Mem} : ∀ {M : Mem}, (M.map (·.1)).Nodup → ((mergeM M N).map (·.1)).Nodup := by
  induction N with
  | nil => exact fun h => h
  | cons p N ih => exact fun h => ih (put_nd h)
/-! ### the machine -/
structure St where
  place : Int
  bx : List Int
  mem : Mem
  rows : List (Int × List Int × Mem)
abbrev Repl := List Int × Mem
def geti (l : List Int) (i : Int) : Int := l.getD i.toNat 0
abbrev inR (k b p : Int) : Prop := b ≤ p ∧ p < b + p2 k
structure Plan where
  k : Int
  b : Int
  m : Int
  s : Int
  g : Int
abbrev Plan.d (p : Plan) : D := planD p.k p.b p.m p.s p.g
def Plan.ok (p : Plan) : Prop := PlanOk p.k p.b p.m p.s p.g
abbrev Ins := String × List Int
/-- what an instruction does, but for the place -/
def eff (P : Plan) (R : List Repl) (x : String) (vs : List Int) (s : St) : Option Ins × St := match vs with
  | [] => (some ("stopped", []), s)
  | [n] => if x = "jump" ∨ x = "through" then (none, s)
    else if P.g ≤ n then (some ("lost", []), s)
    else if R.length < s.rows.length + 1 then (some ("asks", [n]), { s with rows := s.rows ++ [(n, s.bx, s.mem)] })
    else (none, { s with bx := (R.getD s.rows.length ([], [])).1 ++ [geti s.bx 7], mem := mergeM s.mem (R.getD s.rows.length ([], [])).2, rows := s.rows ++ [(n, s.bx, s.mem)] })
  | [p, q] => if x = "put" then (none, { s with bx := s.bx.set p.toNat q })
    else if x = "jumpif" then (none, s)
    else (none, { s with bx := s.bx.set p.toNat (if x = "fit" then fitI P.k P.b (geti s.bx q) else aimI P.m P.s (geti s.bx q)) })
  | [p, q, r] => if x = "load" ∨ x = "store" then
      (if inR P.k P.b ((geti s.bx q + r) % 4294967296) then (if x = "load" then (none, { s with bx := s.bx.set p.toNat (getM s.mem ((geti s.bx q + r) % 4294967296)) })
        else (none, { s with mem := putM s.mem ((geti s.bx q + r) % 4294967296) (geti s.bx p) }))
      else (some ("beyond", [(geti s.bx q + r) % 4294967296]), s))
    else (none, { s with bx := s.bx.set p.toNat (if x = "more" then (geti s.bx q + r) % 4294967296 else valI x (geti s.bx q) (geti s.bx r)) })
  | _ => (none, s)
/-- the place behind -/
def nxt (x : String) (vs : List Int) (s : St) : Int := match vs with
  | [n] => if x = "jump" then n else if x = "through" then geti s.bx n else s.place + 1
  | [p, q] => if x = "put" then s.place + 2 else if x = "jumpif" ∧ geti s.bx p ≠ 0 then q else s.place + 1
  | _ => s.place + 1
def doIns (P : Plan) (R : List Repl) (x : String) (vs : List Int) (s : St) : Option Ins × St :=
  ((eff P R x vs s).1, if (eff P R x vs s).1 = none then { (eff P R x vs s).2 with place := nxt x vs (eff P R x vs s).2 } else (eff P R x vs s).2)
structure StOk (s : St) : Prop where
  bl : s.bx.length = 8
  bv : ∀ v ∈ s.bx, V32 v
  mv : MemOk s.mem
def ReplOk (r : Repl) : Prop := r.1.length = 7 ∧ (∀ v ∈ r.1, V32 v) ∧ MemOk r.2
theorem StOk.at {s : St} (h : StOk s) {i : Int} (i0 : 0 ≤ i) (i1 : i < 8) : atI (s.bx.map D.int) i = some (.int (geti s.bx i)) ∧ V32 (geti s.bx i) := by
  obtain ⟨n, rfl⟩ := Int.eq_ofNat_of_zero_le i0
  have hn : n < s.bx.length := by rw [h.bl]; omega
  have e : s.bx[n]? = some (geti s.bx n) := by
    unfold geti
    rw [List.getD_eq_getElem?_getD, Int.toNat_natCast, List.getElem?_eq_getElem hn]
    rfl
  exact ⟨atI_nat (by rw [List.getElem?_map, e]; rfl), h.bv _ (List.mem_of_getElem? e)⟩
theorem StOk.set {s : St} (h : StOk s) {i : Nat} {v : Int} (hv : V32 v) : StOk { s with bx := s.bx.set i v } := ⟨by simp [h.bl], fun w hw => by
  rcases List.mem_or_eq_of_mem_set hw with q | q
  · exact h.bv w q
  · rw [q]; exact hv, h.mv⟩
theorem StOk.go {s : St} (h : StOk s) (pl : Int) : StOk { s with place := pl } := ⟨h.bl, h.bv, h.mv⟩
end P

set_option Elab.async false
set_option linter.all false
set_option maxRecDepth 100000
set_option maxHeartbeats 4000000
/-! the machine's small defs -/
namespace P
open PySem L2 G
local macro_rules | `(tactic| top_raise0) => `(tactic| first | omega | (unfold mulOk; omega) | ((repeat' (apply And.intro)) <;> first | omega | with_reducible assumption | rfl | (unfold mulOk; omega)))
local macro_rules | `(tactic| k_upd) => `(tactic| first | with_reducible assumption | ((with_reducible refine At.fr0 (by with_reducible assumption) ?_); k_upd) | ((with_reducible refine At.fr1 (by with_reducible assumption) ?_ ?_); (focus k_upd); top_raise) | ((with_reducible refine At.fr2 (by with_reducible assumption) ?_ ?_ ?_); (focus k_upd); (focus top_raise); top_raise))
local macro_rules | `(tactic| k_updF) => `(tactic| first | with_reducible assumption | with_reducible exact At.lt (by with_reducible assumption) | ((with_reducible refine Fr.lt (by with_reducible assumption) ?_); k_updF))
local macro_rules | `(tactic| top_raise) => `(tactic| first | with_reducible assumption | ((with_reducible refine Nw.ne (by with_reducible assumption) ?_); k_updF) | ((with_reducible refine Nw.ne' (by with_reducible assumption) ?_); k_updF) | omega)
local macro_rules | `(tactic| kbo_bools) => `(tactic| simp -dsimp)
local macro_rules | `(tactic| kat_tups) => `(tactic| first | rfl | with_reducible assumption | exact atI_nat rfl)
local macro_rules | `(tactic| tb_rel) => `(tactic| first
   | ((with_reducible refine gd_i ?_ ?_); (focus first | exact ⟨_, lAt_at (by k_upd)⟩ | top_raise0))
   | ((with_reducible apply atK_i); (focus kat_tups))
   | ((with_reducible apply r_ix); (focus k_upd))
   | ((with_reducible apply r_len); (focus k_upd))
   | ((with_reducible apply r_inL); (focus k_upd); (focus (simp; done)))
   | ((with_reducible apply r_chk); (focus k_upd))
   | ((with_reducible refine r_new ?_); intro _ _ _ _ _)
   | ((with_reducible apply r_app); (focus k_upd); (focus top_raise0); intro _ hA _; (try simp only [List.nil_append, List.cons_append] at hA))
   | ((with_reducible apply r_putT); (focus k_upd); (focus top_caught); (focus top_caught); intro _ hA _; (try simp only [Int.reduceToNat, List.set_cons_zero, List.set_cons_succ] at hA))
   | (with_reducible refine ws_for ?_)
   | (with_reducible refine wfor_t1 ?_)
   | (with_reducible refine wfor_t0 ?_)
   | ((with_reducible refine r_eqO ?_ ?_ ?_); (focus (simp [okD, okL]; done)); (focus (simp [dpD, dpL]; done)))
   | ((with_reducible refine r_neO ?_ ?_ ?_); (focus (simp [okD, okL]; done)); (focus (simp [dpD, dpL]; done)))
   | ((with_reducible refine sel_t ?_ ?_); (focus top_raise0))
   | ((with_reducible refine sel_f ?_ ?_); (focus top_raise0)))
local macro_rules | `(tactic| tb_start) => `(tactic| repeat (first | kbo_bools | tb_rel))
local macro_rules | `(tactic| top_caught) => `(tactic| first | omega | (simp; done) | (simp; omega) | (simp; constructor <;> omega))
local macro_rules | `(tactic| top_name) => `(tactic| first | with_reducible assumption | exact Fr.refl | ((with_reducible refine Fr.trans ?_ (by with_reducible assumption)); top_name) | ((with_reducible refine Fr.trans ?_ (Fr.up (by with_reducible assumption))); top_name) | ((with_reducible refine Fr.new ?_ ?_ (by with_reducible assumption)); (focus top_name); allgen_close_more) | ((with_reducible refine Fr.new2 ?_ ?_ (by with_reducible assumption) (by simp)); (focus top_name); allgen_close_more))
local macro_rules | `(tactic| allgen_close_more) => `(tactic| first | with_reducible assumption | ((with_reducible refine Fr.nw (by with_reducible assumption) ?_); allgen_close_more))
local macro_rules | `(tactic| allgen_close2_more) => `(tactic| simp only [fill_some, fill_none, fill_nil, Nat.reduceAdd])
def mrun (P : Plan) (code : List Int) (R : List Repl) (most : Int) : Nat → St → Int → Ins × St × Int
  | 0, s, n => (("", []), s, n)
  | f + 1, s, n => match insAt code s.place with
    | none => (("lost", []), s, n)
    | some i => if n = most then (("spent", []), s, n) else match doIns P R i.1 i.2 s with
      | (some e, s') => (e, s', n + 1)
      | (none, s') => mrun P code R most f s' (n + 1)
section
variable {s : Sto} {Q : D → Sto → Prop} {E : XP} {u : Lk2 Q E}
theorem w_in_room {P : Plan} (p : P.ok) {x : Int} (k : Q (.bl (decide (inR P.k P.b x))) s) : wp (g_in_room_1 [P.d, .int x]) s Q E u := by
  refine u_in_room_1 ?_
  unfold c_in_room_1
  obtain ⟨k0, k1, b0, bm, b1, m0, s0, ms, g0, g1⟩ := p
  have e : decide (inR P.k P.b x) = (decide (P.b ≤ x) && decide (x < P.b + p2 P.k)) := by unfold inR; rw [Bool.decide_and]
  rw [e] at k
  tb_start
  refine sel_i (fun c => ?_) (fun c => ?_)
  · rw [decide_eq_true c] at k
    tb_start
    exact k
  · rw [decide_eq_false c] at k
    tb_start
    exact k
theorem w_of_two {x : String} {v w : Int} (hv : V32 v) (hw : V32 w) (hx : isW x) (k : Q (.int (valI x v w)) s) : wp (g_of_two [.str x, .int v, .int w]) s Q E u := by
  refine u_of_two ?_
  unfold c_of_two
  obtain ⟨v0, v1⟩ := hv
  obtain ⟨w0, w1⟩ := hw
  have e1 := and_of v0 w0
  have e2 := or_of v0 w0
  have e3 := xor_of v0 w0
  rcases hx with rfl | rfl | (rfl | rfl | rfl) | (rfl | rfl | rfl)
  · tb_start
    simpa [valI] using k
  · tb_start
    simpa [valI] using k
  · tb_start
    rw [e1]
    simpa [valI, bitI] using k
  · tb_start
    rw [e2]
    simpa [valI, bitI] using k
  · tb_start
    rw [e3]
    simpa [valI, bitI] using k
  · tb_start
    simpa [valI, shI] using k
  · tb_start
    have := p2_le (a := w % 32) (b := 31) (by omega)
    tb_start
    simpa [valI, shI] using k
  · tb_start
    simpa [valI, shI] using k
theorem w_reckoned {x : String} {vs : List Int} {S : St} {jb : Nat} (ok : StOk S) (hb : At s jb (.lst (S.bx.map D.int))) (h : InsOk x vs) (k0 : ∀ a v, x = "put" → vs = [a, v] → Q (.int v) s)
    (k1 : ∀ a b n, x = "more" → vs = [a, b, n] → Q (.int ((geti S.bx b + n) % 4294967296)) s) (k2 : ∀ a b c, isW x → vs = [a, b, c] → Q (.int (valI x (geti S.bx b) (geti S.bx c))) s) (hx : x = "put" ∨ x = "more" ∨ isW x) : wp (g_reckoned_1 [insD x vs, .box jb]) s Q E u := by
  refine u_reckoned_1 ?_
  unfold c_reckoned_1 insD
  cases h with
  | @put a v a0 a1 v0 v1 =>
    simp only [List.map_cons, List.map_nil]
    have k0 := k0 _ _ rfl rfl
    tb_start
  | @more x a b n hx' a0 a1 b0 b1 n0 n1 =>
    obtain rfl : x = "more" := by rcases hx' with rfl | rfl | rfl <;> simp [isW, isSh] at hx ⊢
    obtain ⟨e1, _⟩ := ok.at b0 b1
    have k1 := k1 _ _ _ rfl rfl
    simp only [List.map_cons, List.map_nil]
    tb_start
    refine r_ix2L hb ?_
    refine atK_i e1 ?_
    tb_start
  | @three x a b c hx' a0 a1 b0 b1 c0 c1 =>
    obtain ⟨e1, v1⟩ := ok.at b0 b1
    obtain ⟨e2, v2⟩ := ok.at c0 c1
    have hw : isW x := by rcases hx' with rfl | rfl | rfl | rfl | rfl | rfl | rfl | rfl <;> simp [isW, isSh]
    have k2 := k2 _ _ _ hw rfl
    simp only [List.map_cons, List.map_nil]
    have main : ∀ y : String, y = x → wp (g_of_two [.str y, .int (geti S.bx b), .int (geti S.bx c)]) s Q E := fun y e => by
      subst e
      exact w_of_two v1 v2 hw k2
    rcases hx' with rfl | rfl | rfl | rfl | rfl | rfl | rfl | rfl
    all_goals
      tb_start
      refine r_ix2L hb ?_
      refine atK_i e1 ?_
      tb_start
      refine r_ix2L hb ?_
      refine atK_i e2 ?_
      tb_start
      exact main _ rfl
  | place hx' => rcases hx' with rfl | rfl <;> simp [isW, isSh] at hx
  | two hx' => rcases hx' with rfl | rfl <;> simp [isW, isSh] at hx
  | _ => simp [isW, isSh] at hx
theorem w_masked {P : Plan} (p : P.ok) {x : String} {a b : Int} {S : St} {jb : Nat} (ok : StOk S) (hb : At s jb (.lst (S.bx.map D.int))) (b0 : 0 ≤ b) (b1 : b < 8) (hx : x = "fit" ∨ x = "aim")
    (k : Q (.int (if x = "fit" then fitI P.k P.b (geti S.bx b) else aimI P.m P.s (geti S.bx b))) s) : wp (g_masked_1 [P.d, insD x [a, b], .box jb]) s Q E u := by
  refine u_masked_1 ?_
  unfold c_masked_1 insD
  obtain ⟨pk0, k1, pb0, bm, pb1, m0, s0, ms, g0, g1⟩ := p
  obtain ⟨e1, v0, v1⟩ := ok.at b0 b1
  have m1 := mask_of (v := geti S.bx b) pk0
  have m2 := mask_of (v := geti S.bx b) m0
  have hk := p2_pos (z := P.k)
  have hk2 : p2 P.k ≤ 1048576 := p2_le (b := 20) (by omega)
  have hm := p2_pos (z := P.m)
  have hm2 : p2 P.m ≤ 128 := p2_le (b := 7) (by omega)
  have hs := p2_pos (z := P.s)
  have hs2 : p2 P.s ≤ 128 := p2_le (b := 7) (by omega)
  have d1 := mod_lo (x := geti S.bx b) hm
  have d2 := mod_hi (x := geti S.bx b) hm
  simp only [List.map_cons, List.map_nil]
  tb_start
  refine r_ix2L hb ?_
  refine atK_i e1 ?_
  rcases hx with rfl | rfl
  · tb_start
    rw [m1]
    simpa [fitI] using k
  · tb_start
    rw [m2]
    tb_start
    simpa [aimI] using k
end
end P

set_option Elab.async false
set_option linter.all false
set_option maxRecDepth 100000
set_option maxHeartbeats 4000000
/-! the machine's object -/
namespace P
open PySem L2 G
local macro_rules | `(tactic| top_raise0) => `(tactic| first | omega | (unfold mulOk; omega) | ((repeat' (apply And.intro)) <;> first | omega | with_reducible assumption | rfl | (unfold mulOk; omega)))
local macro_rules | `(tactic| k_upd) => `(tactic| first | with_reducible assumption | ((with_reducible refine At.fr0 (by with_reducible assumption) ?_); k_upd) | ((with_reducible refine At.fr1 (by with_reducible assumption) ?_ ?_); (focus k_upd); top_raise) | ((with_reducible refine At.fr2 (by with_reducible assumption) ?_ ?_ ?_); (focus k_upd); (focus top_raise); top_raise))
local macro_rules | `(tactic| k_updF) => `(tactic| first | with_reducible assumption | with_reducible exact At.lt (by with_reducible assumption) | ((with_reducible refine Fr.lt (by with_reducible assumption) ?_); k_updF))
local macro_rules | `(tactic| top_raise) => `(tactic| first | with_reducible assumption | ((with_reducible refine Nw.ne (by with_reducible assumption) ?_); k_updF) | ((with_reducible refine Nw.ne' (by with_reducible assumption) ?_); k_updF) | omega)
local macro_rules | `(tactic| kbo_bools) => `(tactic| simp -dsimp)
local macro_rules | `(tactic| kat_tups) => `(tactic| first | rfl | with_reducible assumption | exact atI_nat rfl)
local macro_rules | `(tactic| tb_rel) => `(tactic| first
   | ((with_reducible refine gd_i ?_ ?_); (focus first | exact ⟨_, lAt_at (by k_upd)⟩ | top_raise0))
   | ((with_reducible apply atK_i); (focus kat_tups))
   | ((with_reducible apply r_ix); (focus k_upd))
   | ((with_reducible apply r_len); (focus k_upd))
   | ((with_reducible apply r_inL); (focus k_upd); (focus (simp; done)))
   | ((with_reducible apply r_chk); (focus k_upd))
   | ((with_reducible refine r_new ?_); intro _ _ _ _ _)
   | ((with_reducible apply r_app); (focus k_upd); (focus top_raise0); intro _ hA _; (try simp only [List.nil_append, List.cons_append] at hA))
   | ((with_reducible apply r_putT); (focus k_upd); (focus top_caught); (focus top_caught); intro _ hA _; (try simp only [Int.reduceToNat, List.set_cons_zero, List.set_cons_succ] at hA))
   | (with_reducible refine ws_for ?_)
   | (with_reducible refine wfor_t1 ?_)
   | (with_reducible refine wfor_t0 ?_)
   | ((with_reducible refine r_eqO ?_ ?_ ?_); (focus (simp [okD, okL]; done)); (focus (simp [dpD, dpL]; done)))
   | ((with_reducible refine r_neO ?_ ?_ ?_); (focus (simp [okD, okL]; done)); (focus (simp [dpD, dpL]; done)))
   | ((with_reducible refine sel_t ?_ ?_); (focus top_raise0))
   | ((with_reducible refine sel_f ?_ ?_); (focus top_raise0)))
local macro_rules | `(tactic| tb_start) => `(tactic| repeat (first | kbo_bools | tb_rel))
local macro_rules | `(tactic| top_caught) => `(tactic| first | omega | (simp; done) | (simp; omega) | (simp; constructor <;> omega))
local macro_rules | `(tactic| top_name) => `(tactic| first | with_reducible assumption | exact Fr.refl | ((with_reducible refine Fr.trans ?_ (by with_reducible assumption)); top_name) | ((with_reducible refine Fr.trans ?_ (Fr.up (by with_reducible assumption))); top_name) | ((with_reducible refine Fr.new ?_ ?_ (by with_reducible assumption)); (focus top_name); allgen_close_more) | ((with_reducible refine Fr.new2 ?_ ?_ (by with_reducible assumption) (by simp)); (focus top_name); allgen_close_more))
local macro_rules | `(tactic| allgen_close_more) => `(tactic| first | with_reducible assumption | ((with_reducible refine Fr.nw (by with_reducible assumption) ?_); allgen_close_more))
local macro_rules | `(tactic| allgen_close2_more) => `(tactic| simp only [fill_some, fill_none, fill_nil, Nat.reduceAdd])
local macro_rules | `(tactic| tb_rel) => `(tactic| first
   | ((with_reducible apply r_fld); (focus k_upd))
   | ((with_reducible apply r_chkO); (focus k_upd); (focus (simp; done)))
   | ((with_reducible apply r_chkD); (focus k_upd))
   | ((with_reducible apply r_dict); (focus k_upd))
   | ((with_reducible apply r_tupleB); (focus k_upd))
   | ((with_reducible apply r_listB); (focus k_upd))
   | ((with_reducible apply r_ix2L); (focus k_upd))
   | ((with_reducible apply onIt_i); (focus k_upd)))
/-- replies: a list of (boxes, writes); the dicts stand of old -/
def RepR (s0 s : Sto) (rds : List D) (R : List Repl) : Prop := rds.length = R.length ∧ ∀ (i : Nat) r, R[i]? = some r → ∃ j, rds[i]? = some (.tup [.tup (r.1.map D.int), .box j]) ∧ At s j (.dk (mD r.2)) ∧ j < s0.length
/-- rows kept: each with a dict of its own, new since s0, none of it jd, no two the same -/
def RowsR (s0 s : Sto) (jd : Nat) (rds : List D) (rows : List (Int × List Int × Mem)) : Prop := rds.length = rows.length ∧ ∀ (i : Nat) r, rows[i]? = some r → ∃ j, rds[i]? = some (.tup [.int r.1, .tup (r.2.1.map D.int), .box j]) ∧ At s j (.dk (mD r.2.2)) ∧ Nw s0 j ∧ (j ≠ jd ∧ ∀ (i' : Nat) (x y : D), i' ≠ i → rds[i']? ≠ some (.tup [x, y, .box j]))
theorem RepR.fr {s0 s t : Sto} {ks : List Nat} {rds : List D} {R : List Repl} (h : RepR s0 s rds R) (f : Fr ks s t) (n : ∀ k ∈ ks, Nw s0 k) : RepR s0 t rds R := ⟨h.1, fun i r e => by
  obtain ⟨j, h1, h2, h3⟩ := h.2 i r e
  exact ⟨j, h1, h2.fr f fun q => by have := n j q; unfold Nw at this; omega, h3⟩⟩
theorem RowsR.fr {s0 s t : Sto} {ks : List Nat} {jd : Nat} {rds : List D} {rows : List (Int × List Int × Mem)} (h : RowsR s0 s jd rds rows) (f : Fr ks s t) (n : ∀ k ∈ ks, k = jd ∨ ∀ kvs, ¬ At s k (.dk kvs)) : RowsR s0 t jd rds rows := ⟨h.1, fun i r e => by
  obtain ⟨j, h1, h2, h3, h4⟩ := h.2 i r e
  exact ⟨j, h1, h2.fr f fun q => by
    rcases n j q with z | z
    · exact h4.1 z
    · exact z _ h2, h3, h4⟩⟩
theorem RowsR.push {s0 s s1 : Sto} {jd j : Nat} {rds : List D} {rows : List (Int × List Int × Mem)} {n : Int} {bx : List Int} {M : Mem} (h : RowsR s0 s jd rds rows) (hj : At s j (.dk (mD M))) (nw : Nw s0 j) (ne : j ≠ jd) (hs : RowsR s0 s1 jd rds rows) (ns : Nw s1 j) : RowsR s0 s jd (rds ++ [.tup [.int n, .tup (bx.map D.int), .box j]]) (rows ++ [(n, bx, M)]) := by
  have old : ∀ (i : Nat) (x y : D) k, rds[i]? = some (.tup [x, y, .box k]) → k < s1.length := fun i x y k e => by
    have hi : i < rows.length := by rw [← h.1]; exact (List.getElem?_eq_some_iff.mp e).1
    obtain ⟨k', e1, e2, _⟩ := hs.2 i _ (List.getElem?_eq_getElem hi)
    rw [e] at e1
    cases e1
    exact e2.lt
  refine ⟨by simp [h.1], fun i r e => ?_⟩
  by_cases c : i < rows.length
  · rw [List.getElem?_append_left c] at e
    obtain ⟨k, h1, h2, h3, h4, h5⟩ := h.2 i r e
    refine ⟨k, by rw [List.getElem?_append_left (by rw [h.1]; exact c)]; exact h1, h2, h3, h4, fun i' x y ni q => ?_⟩
    by_cases c' : i' < rds.length
    · rw [List.getElem?_append_left c'] at q
      exact h5 i' x y ni q
    · rw [List.getElem?_append_right (by omega)] at q
      have hi : i' - rds.length = 0 := by
        by_cases z : i' - rds.length = 0
        · exact z
        · rw [List.getElem?_eq_none (by simp; omega)] at q; cases q
      rw [hi] at q
      cases q
      have := old i _ _ _ h1
      unfold Nw at ns
      omega
  · rw [List.getElem?_append_right (by omega)] at e
    have hi : i - rows.length = 0 := by
      by_cases z : i - rows.length = 0
      · exact z
      · rw [List.getElem?_eq_none (by simp; omega)] at e; cases e
    rw [hi] at e
    cases e
    refine ⟨j, by rw [List.getElem?_append_right (by rw [h.1]; omega), h.1, hi]; rfl, hj, nw, ne, fun i' x y ni q => ?_⟩
    by_cases c' : i' < rds.length
    · rw [List.getElem?_append_left c'] at q
      have := old i' _ _ _ q
      unfold Nw at ns
      omega
    · rw [List.getElem?_eq_none (by simp; have := h.1; omega)] at q
      cases q
theorem nd_l {s : Sto} {k : Nat} {xs : List D} (h : At s k (.lst xs)) : ∀ kvs, ¬ At s k (.dk kvs) := fun kvs q => by cases h.same q
theorem nd_i {s : Sto} {k : Nat} {c : Str} {fs : List (Str × D)} (h : At s k (.ins c fs)) : ∀ kvs, ¬ At s k (.dk kvs) := fun kvs q => by cases h.same q
abbrev mFs (P : Plan) (S : St) (jc jb jd jr jw : Nat) : List (Str × D) := [("plan", P.d), ("code", .box jc), ("place", .int S.place), ("boxes", .box jb), ("memory", .box jd), ("replies", .box jr), ("rows", .box jw)]
structure MAt (s0 s : Sto) (jm jc jb jd jr jw : Nat) (P : Plan) (code : List Int) (R : List Repl) (S : St) : Prop where
  ob : At s jm (.ins "Machine" (mFs P S jc jb jd jr jw))
  code : At s jc (.lst (code.map D.int))
  bx : At s jb (.lst (S.bx.map D.int))
  mem : At s jd (.dk (mD S.mem))
  repl : ∃ rds, At s jr (.lst rds) ∧ RepR s0 s rds R
  rows : ∃ rds, At s jw (.lst rds) ∧ RowsR s0 s jd rds S.rows
  nm : Nw s0 jm
  nc : Nw s0 jc
  nb : Nw s0 jb
  nd : Nw s0 jd
  nr : Nw s0 jr
  nw : Nw s0 jw
  cb : jc ≠ jb
  cw : jc ≠ jw
  br : jb ≠ jr
  bw : jb ≠ jw
  rw' : jr ≠ jw
  fr : Fr [] s0 s
section
variable {s0 s t : Sto} {jm jc jb jd jr jw : Nat} {P : Plan} {code : List Int} {R : List Repl} {S : St}
theorem ne_li {s : Sto} {i j : Nat} {xs : List D} {c : Str} {fs : List (Str × D)} (h : At s i (.lst xs)) (h' : At s j (.ins c fs)) : i ≠ j := fun e => by subst e; cases h.same h'
theorem ne_ld {s : Sto} {i j : Nat} {xs : List D} {kvs : List (Key × D)} (h : At s i (.lst xs)) (h' : At s j (.dk kvs)) : i ≠ j := fun e => by subst e; cases h.same h'
theorem ne_di {s : Sto} {i j : Nat} {kvs : List (Key × D)} {c : Str} {fs : List (Str × D)} (h : At s i (.dk kvs)) (h' : At s j (.ins c fs)) : i ≠ j := fun e => by subst e; cases h.same h'
/-- new things alone -/
theorem MAt.fr0 (h : MAt s0 s jm jc jb jd jr jw P code R S) (f : Fr [] s t) : MAt s0 t jm jc jb jd jr jw P code R S := by
  obtain ⟨h1, h2, h3, h4, ⟨rr, h5, h5'⟩, ⟨rw_, h6, h6'⟩, n1, n2, n3, n4, n5, n6, d1, d2, d3, d4, d5, fr⟩ := h
  exact ⟨h1.fr0 f, h2.fr0 f, h3.fr0 f, h4.fr0 f, ⟨rr, h5.fr0 f, h5'.fr f (by simp)⟩, ⟨rw_, h6.fr0 f, h6'.fr f (by simp)⟩, n1, n2, n3, n4, n5, n6, d1, d2, d3, d4, d5, fr.trans f⟩
/-- the boxes are written -/
theorem MAt.setB (h : MAt s0 s jm jc jb jd jr jw P code R S) {bx : List Int} (f : Fr [jb] s t) (hb : At t jb (.lst (bx.map D.int))) : MAt s0 t jm jc jb jd jr jw P code R { S with bx := bx } := by
  obtain ⟨h1, h2, h3, h4, ⟨rr, h5, h5'⟩, ⟨rw_, h6, h6'⟩, n1, n2, n3, n4, n5, n6, d1, d2, d3, d4, d5, fr⟩ := h
  exact ⟨h1.fr1 f (ne_li h3 h1).symm, h2.fr1 f d1, hb, h4.fr1 f (ne_ld h3 h4).symm, ⟨rr, h5.fr1 f d3.symm, h5'.fr f (by simpa using n3)⟩, ⟨rw_, h6.fr1 f d4.symm, h6'.fr f fun k hk => by rw [List.mem_singleton.mp hk]; exact .inr (nd_l h3)⟩,
    n1, n2, n3, n4, n5, n6, d1, d2, d3, d4, d5, fr.new n3 f⟩
/-- the memory is written -/
theorem MAt.setM (h : MAt s0 s jm jc jb jd jr jw P code R S) {M : Mem} (f : Fr [jd] s t) (hd : At t jd (.dk (mD M))) : MAt s0 t jm jc jb jd jr jw P code R { S with mem := M } := by
  obtain ⟨h1, h2, h3, h4, ⟨rr, h5, h5'⟩, ⟨rw_, h6, h6'⟩, n1, n2, n3, n4, n5, n6, d1, d2, d3, d4, d5, fr⟩ := h
  exact ⟨h1.fr1 f (ne_di h4 h1).symm, h2.fr1 f (ne_ld h2 h4), h3.fr1 f (ne_ld h3 h4), hd, ⟨rr, h5.fr1 f (ne_ld h5 h4), h5'.fr f (by simpa using n4)⟩, ⟨rw_, h6.fr1 f (ne_ld h6 h4), h6'.fr f fun k hk => by rw [List.mem_singleton.mp hk]; exact .inl rfl⟩,
    n1, n2, n3, n4, n5, n6, d1, d2, d3, d4, d5, fr.new n4 f⟩
/-- the object is written: its place -/
theorem MAt.setP (h : MAt s0 s jm jc jb jd jr jw P code R S) {p : Int} (f : Fr [jm] s t) (hm : At t jm (.ins "Machine" (mFs P { S with place := p } jc jb jd jr jw))) : MAt s0 t jm jc jb jd jr jw P code R { S with place := p } := by
  obtain ⟨h1, h2, h3, h4, ⟨rr, h5, h5'⟩, ⟨rw_, h6, h6'⟩, n1, n2, n3, n4, n5, n6, d1, d2, d3, d4, d5, fr⟩ := h
  exact ⟨hm, h2.fr1 f (ne_li h2 h1), h3.fr1 f (ne_li h3 h1), h4.fr1 f (ne_di h4 h1), ⟨rr, h5.fr1 f (ne_li h5 h1), h5'.fr f (by simpa using n1)⟩, ⟨rw_, h6.fr1 f (ne_li h6 h1), h6'.fr f fun k hk => by rw [List.mem_singleton.mp hk]; exact .inr (nd_i h1)⟩,
    n1, n2, n3, n4, n5, n6, d1, d2, d3, d4, d5, fr.new n1 f⟩
end
section
variable {s0 s : Sto} {jm jc jb jd jr jw : Nat} {P : Plan} {code : List Int} {R : List Repl} {S : St} {Q : D → Sto → Prop} {E : XP} {u : Lk2 Q E}
theorem big_eq : big = 1000000 := rfl
theorem set_int {l : List Int} {i : Nat} {v : Int} : (l.map D.int).set i (.int v) = (l.set i v).map D.int := by rw [List.map_set]
theorem w_reach {x : String} {a b n : Int} (p : P.ok) (ok : StOk S) (h : MAt s0 s jm jc jb jd jr jw P code R S) (hx : x = "load" ∨ x = "store") (a0 : 0 ≤ a) (a1 : a < 8) (b0 : 0 ≤ b) (b1 : b < 8) (hM : S.mem.length < 900000)
    (k : ∀ t, MAt s0 t jm jc jb jd jr jw P code R (eff P R x [a, b, n] S).2 → Q (decD (eff P R x [a, b, n] S).1) t) : wp (g_Machine_reach [.box jm, insD x [a, b, n]]) s Q E u := by
  refine u_Machine_reach ?_
  unfold c_Machine_reach insD
  have bg := big_eq
  have hlen := ok.bl
  obtain ⟨e1, v0, v1⟩ := ok.at b0 b1
  obtain ⟨e2, w0, w1⟩ := ok.at a0 a1
  have hob := h.ob
  have hbx := h.bx
  have hmem := h.mem
  simp only [List.map_cons, List.map_nil]
  tb_start
  refine w_in_room p ?_
  by_cases hin : inR P.k P.b ((geti S.bx b + n) % 4294967296)
  · obtain ⟨i1, i2⟩ := hin
    rcases hx with rfl | rfl
    · have ee : eff P R "load" [a, b, n] S = (none, { S with bx := S.bx.set a.toNat (getM S.mem ((geti S.bx b + n) % 4294967296)) }) := by
        simp [eff, i1, i2]
      rw [ee] at k
      tb_start
      refine r_getD (k := .inl ((geti S.bx b + n) % 4294967296)) hmem rfl ?_
      rw [get_mD]
      tb_start
      refine r_put2L hbx a0 (by simp [hlen]; omega) fun t ht ft => ?_
      rw [set_int] at ht
      tb_start
      exact k t (h.setB ft ht)
    · have ee : eff P R "store" [a, b, n] S = (none, { S with mem := putM S.mem ((geti S.bx b + n) % 4294967296) (geti S.bx a) }) := by
        simp [eff, i1, i2]
      rw [ee] at k
      tb_start
      refine r_put2D (k := .inl ((geti S.bx b + n) % 4294967296)) hmem rfl (by rw [mD_len]; omega) fun t ht ft => ?_
      rw [put_mD] at ht
      tb_start
      exact k t (h.setM ft ht)
  · have ee : eff P R x [a, b, n] S = (some ("beyond", [(geti S.bx b + n) % 4294967296]), S) := by
      simp only [eff, if_pos hx, if_neg hin]
    rw [ee] at k
    have k := k s h
    simp only [decD, insD, List.map_cons, List.map_nil] at k
    by_cases c : P.b ≤ (geti S.bx b + n) % 4294967296
    · have c2 : ¬ (geti S.bx b + n) % 4294967296 < P.b + p2 P.k := fun z => hin ⟨c, z⟩
      tb_start
      try exact k
    · tb_start
      try exact k
theorem w_gate {n : Int} (p : P.ok) (ok : StOk S) (h : MAt s0 s jm jc jb jd jr jw P code R S) (hM : S.mem.length < 400000) (hR : S.rows.length < 900000) (hRo : ∀ r ∈ R, ReplOk r ∧ r.2.length ≤ 400000)
    (k : ∀ t jb', MAt s0 t jm jc jb' jd jr jw P code R (eff P R "gate" [n] S).2 → Q (decD (eff P R "gate" [n] S).1) t) : wp (g_Machine_gate [.box jm, .int n]) s Q E u := by
  refine u_Machine_gate ?_
  unfold c_Machine_gate
  have bg := big_eq
  have hlen := ok.bl
  obtain ⟨rr, hrep, hrep'⟩ := h.repl
  obtain ⟨rw_, hrow, hrow'⟩ := h.rows
  have hob := h.ob
  have hbx := h.bx
  have hmem := h.mem
  have hr1 := hrep'.1
  have hw1 := hrow'.1
  tb_start
  refine sel_i (fun c => ?_) (fun c => ?_)
  · have ee : eff P R "gate" [n] S = (some ("lost", []), S) := by
      simp [eff, c]
    rw [ee] at k
    tb_start
    exact k s jb h
  tb_start
  rename_i t1 j1 h1 n1 f1 t2 h2 f2
  have hA := h.fr0 f1
  have ne1 : j1 ≠ jw := (ne_ld (hrow.fr0 f1) h1).symm
  have ne2 : j1 ≠ jd := fun z => by
    have q := hmem.lt
    unfold Nw at n1
    omega
  have nw1 : Nw s0 j1 := h.fr.nw n1
  have hrow2 := (hrow'.fr (t := t1) f1 (by simp)).fr (t := t2) f2 (fun k hk => by rw [List.mem_singleton.mp hk]; exact .inr (nd_l (hrow.fr0 f1)))
  have hrow3 := hrow2.push (n := n) (bx := S.bx) (h1.fr1 f2 ne1) nw1 ne2 hrow' n1
  have hB : MAt s0 t2 jm jc jb jd jr jw P code R { S with rows := S.rows ++ [(n, S.bx, S.mem)] } := by
    obtain ⟨h1, h2', h3, h4, ⟨rr, h5, h5'⟩, ⟨rw_', h6, h6'⟩, m1, m2, m3, m4, m5, m6, d1, d2, d3, d4, d5, fr⟩ := hA
    exact ⟨h1.fr1 f2 (ne_li h6 h1).symm, h2'.fr1 f2 d2, h3.fr1 f2 d4, h4.fr1 f2 (ne_ld h6 h4).symm, ⟨rr, h5.fr1 f2 d5, h5'.fr f2 (by simpa using m6)⟩, ⟨_, h2, hrow3⟩, m1, m2, m3, m4, m5, m6, d1, d2, d3, d4, d5, fr.new m6 f2⟩
  have hob2 := hB.ob
  have hbx2 := hB.bx
  have hmem2 := hB.mem
  have hrep2 : At t2 jr (.lst rr) := (hrep.fr0 f1).fr1 f2 h.rw'
  have hrepB : RepR s0 t2 rr R := (hrep'.fr f1 (by simp)).fr f2 (by simpa using h.nw)
  tb_start
  refine sel_i (fun c2 => ?_) (fun c2 => ?_)
  · have ee : eff P R "gate" [n] S = (some ("asks", [n]), { S with rows := S.rows ++ [(n, S.bx, S.mem)] }) := by
      have c3 : R.length < S.rows.length + 1 := by omega
      simp [eff, c, c3]
    rw [ee] at k
    tb_start
    exact k t2 jb hB
  have c3 : S.rows.length < R.length := by omega
  obtain ⟨r, hr⟩ : ∃ r, R[S.rows.length]? = some r := ⟨_, List.getElem?_eq_getElem c3⟩
  obtain ⟨jx, g1, g2, g3⟩ := hrepB.2 _ _ hr
  obtain ⟨⟨q1, q2, q3⟩, q4⟩ := hRo r (List.mem_of_getElem? hr)
  have ee : eff P R "gate" [n] S = (none, { S with bx := r.1 ++ [geti S.bx 7], mem := mergeM S.mem r.2, rows := S.rows ++ [(n, S.bx, S.mem)] }) := by
    have c4 : ¬ R.length < S.rows.length + 1 := by omega
    simp [eff, c, c4, hr]
  rw [ee] at k
  tb_start
  have ix : atI rr (rw_.length : Int) = some (.tup [.tup (r.1.map D.int), .box jx]) := atI_nat (by rw [hw1]; exact g1)
  obtain ⟨e7, e7v⟩ := ok.at (i := 7) (by decide) (by decide)
  refine atK_i ix ?_
  tb_start
  rename_i t3 j3 h3 n3 f3 t4 j4 h4 n4 f4
  have l1 : (r.1.map D.int).length = 7 := by simpa using q1
  refine r_addL (xs := r.1.map D.int) (ys := [.int (geti S.bx 7)]) (by k_upd) (by k_upd) (by simp [q1]) ?_
  refine r_new fun t5 j5 h5 n5 f5 => ?_
  have e5 : r.1.map D.int ++ [D.int (geti S.bx 7)] = (r.1 ++ [geti S.bx 7]).map D.int := by simp
  rw [e5] at h5
  have f25 : Fr [] t2 t5 := (f3.trans f4).trans f5
  have hC := hB.fr0 f25
  tb_start
  refine r_setF hC.ob (by simp) fun t6 h6 f6 => ?_
  simp at h6
  have nj5 : Nw t2 j5 := (f3.trans f4).nw n5
  have nj : ∀ j, j < t2.length → j5 ≠ j := fun j hj z => by unfold Nw at nj5; omega
  have hob5 := hC.ob
  have hD : MAt s0 t6 jm jc j5 jd jr jw P code R { S with bx := r.1 ++ [geti S.bx 7], rows := S.rows ++ [(n, S.bx, S.mem)] } := by
    obtain ⟨h1, h2', h3, h4, ⟨rr, h5', h5''⟩, ⟨rw_', h6', h6''⟩, m1, m2, m3, m4, m5, m6, d1, d2, d3, d4, d5, fr⟩ := hC
    exact ⟨h6, h2'.fr1 f6 (ne_li h2' h1), h5.fr1 f6 (ne_li h5 h1), h4.fr1 f6 (ne_di h4 h1), ⟨rr, h5'.fr1 f6 (ne_li h5' h1), h5''.fr f6 (by simpa using m1)⟩, ⟨rw_', h6'.fr1 f6 (ne_li h6' h1), h6''.fr f6 fun k hk => by rw [List.mem_singleton.mp hk]; exact .inr (nd_i h1)⟩,
      m1, m2, hB.fr.nw nj5, m4, m5, m6, (nj _ hB.code.lt).symm, d2, nj _ hrep2.lt, nj _ h2.lt, d5, fr.new m1 f6⟩
  have hob6 := hD.ob
  have hmem6 := hD.mem
  have gx : At t6 jx (.dk (mD r.2)) := (g2.fr0 f25).fr1 f6 (ne_di (g2.fr0 f25) hob5)
  have njd := h.nd
  tb_start
  refine r_upd hmem6 gx ⟨fun z => by unfold Nw at njd; omega, ?_⟩ fun t7 h7 f7 => ?_
  · rw [mD_len, mD_len]
    show S.mem.length + _ ≤ _
    omega
  tb_start
  rw [merge_mD] at h7
  exact k t7 j5 (hD.setM f7 h7)
theorem w_onward {x : String} {vs : List Int} (ok : StOk S) (h : MAt s0 s jm jc jb jd jr jw P code R S) (hi : InsOk x vs) (k : Q (.int (nxt x vs S)) s) : wp (g_Machine_onward [.box jm, insD x vs]) s Q E u := by
  refine u_Machine_onward ?_
  unfold c_Machine_onward
  have hob := h.ob
  have hbx := h.bx
  have hi' := hi
  unfold insD
  cases hi with
  | stop =>
    simp only [List.map_cons, List.map_nil]
    tb_start
    exact w_length_of hi' (by simpa [nxt, wds] using k)
  | put a0 a1 v0 v1 =>
    simp only [List.map_cons, List.map_nil]
    tb_start
    exact w_length_of hi' (by simpa [nxt, wds] using k)
  | three hx a0 a1 b0 b1 c0 c1 =>
    simp only [List.map_cons, List.map_nil]
    rcases hx with rfl | rfl | rfl | rfl | rfl | rfl | rfl | rfl
    all_goals
      tb_start
      exact w_length_of hi' (by simpa [nxt, wds] using k)
  | more hx a0 a1 b0 b1 n0 n1 =>
    simp only [List.map_cons, List.map_nil]
    rcases hx with rfl | rfl | rfl
    all_goals
      tb_start
      exact w_length_of hi' (by simpa [nxt, wds] using k)
  | place hx n0 n1 =>
    simp only [List.map_cons, List.map_nil]
    rcases hx with rfl | rfl
    · tb_start
      simpa [nxt] using k
    · tb_start
      exact w_length_of hi' (by simpa [nxt, wds] using k)
  | @jumpif a n a0 a1 n0 n1 =>
    obtain ⟨e1, _⟩ := ok.at a0 a1
    simp only [List.map_cons, List.map_nil]
    tb_start
    refine sel_i (fun c => ?_) (fun c => ?_)
    · tb_start
      exact w_length_of hi' (by simpa [nxt, wds, c] using k)
    · tb_start
      simpa [nxt, c] using k
  | @through b b0 b1 =>
    obtain ⟨e1, _⟩ := ok.at b0 b1
    simp only [List.map_cons, List.map_nil]
    tb_start
    simpa [nxt] using k
  | two hx a0 a1 b0 b1 =>
    simp only [List.map_cons, List.map_nil]
    rcases hx with rfl | rfl
    all_goals
      tb_start
      exact w_length_of hi' (by simpa [nxt, wds] using k)
/-- what the machine's parts are bounded by -/
structure Lim (R : List Repl) (S : St) : Prop where
  m : S.mem.length < 400000
  r : S.rows.length < 400000
  rep : ∀ r ∈ R, ReplOk r ∧ r.2.length ≤ 400000
end
end P

set_option Elab.async false
set_option linter.all false
set_option maxRecDepth 100000
set_option maxHeartbeats 4000000
/-! the machine: an instruction done, a run -/
namespace P
open PySem L2 G
local macro_rules | `(tactic| top_raise0) => `(tactic| first | omega | (unfold mulOk; omega) | ((repeat' (apply And.intro)) <;> first | omega | with_reducible assumption | rfl | (unfold mulOk; omega)))
local macro_rules | `(tactic| k_upd) => `(tactic| first | with_reducible assumption | ((with_reducible refine At.fr0 (by with_reducible assumption) ?_); k_upd) | ((with_reducible refine At.fr1 (by with_reducible assumption) ?_ ?_); (focus k_upd); top_raise) | ((with_reducible refine At.fr2 (by with_reducible assumption) ?_ ?_ ?_); (focus k_upd); (focus top_raise); top_raise))
local macro_rules | `(tactic| k_updF) => `(tactic| first | with_reducible assumption | with_reducible exact At.lt (by with_reducible assumption) | ((with_reducible refine Fr.lt (by with_reducible assumption) ?_); k_updF))
local macro_rules | `(tactic| top_raise) => `(tactic| first | with_reducible assumption | ((with_reducible refine Nw.ne (by with_reducible assumption) ?_); k_updF) | ((with_reducible refine Nw.ne' (by with_reducible assumption) ?_); k_updF) | omega)
local macro_rules | `(tactic| kbo_bools) => `(tactic| simp -dsimp)
local macro_rules | `(tactic| kat_tups) => `(tactic| first | rfl | with_reducible assumption | exact atI_nat rfl)
local macro_rules | `(tactic| tb_rel) => `(tactic| first
   | ((with_reducible refine gd_i ?_ ?_); (focus first | exact ⟨_, lAt_at (by k_upd)⟩ | top_raise0))
   | ((with_reducible apply atK_i); (focus kat_tups))
   | ((with_reducible apply r_ix); (focus k_upd))
   | ((with_reducible apply r_len); (focus k_upd))
   | ((with_reducible apply r_inL); (focus k_upd); (focus (simp; done)))
   | ((with_reducible apply r_chk); (focus k_upd))
   | ((with_reducible refine r_new ?_); intro _ _ _ _ _)
   | ((with_reducible apply r_app); (focus k_upd); (focus top_raise0); intro _ hA _; (try simp only [List.nil_append, List.cons_append] at hA))
   | ((with_reducible apply r_putT); (focus k_upd); (focus top_caught); (focus top_caught); intro _ hA _; (try simp only [Int.reduceToNat, List.set_cons_zero, List.set_cons_succ] at hA))
   | (with_reducible refine ws_for ?_)
   | (with_reducible refine wfor_t1 ?_)
   | (with_reducible refine wfor_t0 ?_)
   | ((with_reducible refine r_eqO ?_ ?_ ?_); (focus (simp [okD, okL]; done)); (focus (simp [dpD, dpL]; done)))
   | ((with_reducible refine r_neO ?_ ?_ ?_); (focus (simp [okD, okL]; done)); (focus (simp [dpD, dpL]; done)))
   | ((with_reducible refine sel_t ?_ ?_); (focus top_raise0))
   | ((with_reducible refine sel_f ?_ ?_); (focus top_raise0)))
local macro_rules | `(tactic| tb_start) => `(tactic| repeat (first | kbo_bools | tb_rel))
local macro_rules | `(tactic| top_caught) => `(tactic| first | omega | (simp; done) | (simp; omega) | (simp; constructor <;> omega))
local macro_rules | `(tactic| top_name) => `(tactic| first | with_reducible assumption | exact Fr.refl | ((with_reducible refine Fr.trans ?_ (by with_reducible assumption)); top_name) | ((with_reducible refine Fr.trans ?_ (Fr.up (by with_reducible assumption))); top_name) | ((with_reducible refine Fr.new ?_ ?_ (by with_reducible assumption)); (focus top_name); allgen_close_more) | ((with_reducible refine Fr.new2 ?_ ?_ (by with_reducible assumption) (by simp)); (focus top_name); allgen_close_more))
local macro_rules | `(tactic| allgen_close_more) => `(tactic| first | with_reducible assumption | ((with_reducible refine Fr.nw (by with_reducible assumption) ?_); allgen_close_more))
local macro_rules | `(tactic| allgen_close2_more) => `(tactic| simp only [fill_some, fill_none, fill_nil, Nat.reduceAdd])
local macro_rules | `(tactic| tb_rel) => `(tactic| first
   | ((with_reducible apply r_fld); (focus k_upd))
   | ((with_reducible apply r_chkO); (focus k_upd); (focus (simp; done)))
   | ((with_reducible apply r_chkD); (focus k_upd))
   | ((with_reducible apply r_dict); (focus k_upd))
   | ((with_reducible apply r_tupleB); (focus k_upd))
   | ((with_reducible apply r_listB); (focus k_upd))
   | ((with_reducible apply r_ix2L); (focus k_upd))
   | ((with_reducible apply onIt_i); (focus k_upd)))
theorem valI_bd {x : String} {v w : Int} (hv : V32 v) (hw : V32 w) (hx : isW x) : V32 (valI x v w) := by
  obtain ⟨v0, v1⟩ := hv
  obtain ⟨w0, w1⟩ := hw
  unfold valI V32
  split
  · exact ⟨mod_lo (by decide), mod_hi (by decide)⟩
  · split
    · exact ⟨mod_lo (by decide), mod_hi (by decide)⟩
    · split
      · exact bitI_bd v0 w0 v1 w1
      · exact shI_bd v0 v1
theorem fitI_bd {P : Plan} (p : P.ok) {v : Int} : V32 (fitI P.k P.b v) := by
  obtain ⟨k0, k1, b0, bm, b1, m0, s0, ms, g0, g1⟩ := p
  have a := mod_lo (x := v) (p2_pos (z := P.k))
  have b := mod_hi (x := v) (p2_pos (z := P.k))
  unfold fitI V32
  omega
theorem aimI_bd {P : Plan} (p : P.ok) {v : Int} : V32 (aimI P.m P.s v) := by
  obtain ⟨k0, k1, b0, bm, b1, m0, s0, ms, g0, g1⟩ := p
  obtain ⟨q1, q2, q3, q4⟩ := aim_bd (v := v) m0 s0 ms
  unfold V32
  omega
theorem m32_bd {v : Int} : V32 (v % 4294967296) := ⟨mod_lo (by decide), mod_hi (by decide)⟩
theorem eff_ok {P : Plan} {R : List Repl} {S : St} {x : String} {vs : List Int} (p : P.ok) (ok : StOk S) (hi : InsOk x vs) (hR : ∀ r ∈ R, ReplOk r) : StOk (eff P R x vs S).2 := by
  cases hi with
  | stop => exact ok
  | put a0 a1 v0 v1 => simp only [eff, if_true]; exact ok.set ⟨v0, v1⟩
  | @three x a b c hx a0 a1 b0 b1 c0 c1 =>
    have hw : isW x := by rcases hx with rfl | rfl | rfl | rfl | rfl | rfl | rfl | rfl <;> simp [isW, isSh]
    have n1 : ¬ (x = "load" ∨ x = "store") := by rcases hx with rfl | rfl | rfl | rfl | rfl | rfl | rfl | rfl <;> simp
    have n2 : x ≠ "more" := by rcases hx with rfl | rfl | rfl | rfl | rfl | rfl | rfl | rfl <;> simp
    simp only [eff, if_neg n1, if_neg n2]
    exact ok.set (valI_bd (ok.at b0 b1).2 (ok.at c0 c1).2 hw)
  | more hx a0 a1 b0 b1 n0 n1 =>
    rcases hx with rfl | rfl | rfl
    · simp only [eff]
      rw [if_neg (by decide), if_pos trivial]
      exact ok.set m32_bd
    · simp only [eff]
      rw [if_pos (by decide)]
      split
      · rw [if_pos trivial]; exact ok.set ok.mv.get
      · exact ok
    · simp only [eff]
      rw [if_pos (by decide)]
      split
      · rw [if_neg (by decide)]; exact ⟨ok.bl, ok.bv, ok.mv.put (ok.at a0 a1).2⟩
      · exact ok
  | @place x n hx n0 n1 =>
    rcases hx with rfl | rfl
    · simp only [eff]; rw [if_pos (by decide)]; exact ok
    · simp only [eff]
      rw [if_neg (by decide)]
      split
      · exact ok
      · split
        · exact ⟨ok.bl, ok.bv, ok.mv⟩
        · rename_i c
          have c3 : S.rows.length < R.length := by omega
          obtain ⟨r, hr⟩ : ∃ r, R[S.rows.length]? = some r := ⟨_, List.getElem?_eq_getElem c3⟩
          obtain ⟨q1, q2, q3⟩ := hR r (List.mem_of_getElem? hr)
          have e : R.getD S.rows.length ([], []) = r := by rw [List.getD_eq_getElem?_getD, hr]; rfl
          rw [e]
          refine ⟨by simp [q1], fun v hv => ?_, MemOk.merge q3 ok.mv⟩
          rcases List.mem_append.mp hv with z | z
          · exact q2 v z
          · rw [List.mem_singleton.mp z]; exact (ok.at (i := 7) (by decide) (by decide)).2
  | jumpif a0 a1 n0 n1 => simp only [eff]; rw [if_neg (by decide), if_pos trivial]; exact ok
  | through b0 b1 => simp only [eff]; rw [if_pos (by decide)]; exact ok
  | two hx a0 a1 b0 b1 =>
    rcases hx with rfl | rfl
    · simp only [eff]; rw [if_neg (by decide), if_neg (by decide), if_pos trivial]; exact ok.set (fitI_bd p)
    · simp only [eff]; rw [if_neg (by decide), if_neg (by decide), if_neg (by decide)]; exact ok.set (aimI_bd p)
theorem doIns_ok {P : Plan} {R : List Repl} {S : St} {x : String} {vs : List Int} (p : P.ok) (ok : StOk S) (hi : InsOk x vs) (hR : ∀ r ∈ R, ReplOk r) : StOk (doIns P R x vs S).2 := by
  have h := eff_ok p ok hi hR
  unfold doIns
  dsimp only
  split
  · exact h.go _
  · exact h
section
variable {s0 s : Sto} {jm jc jb jd jr jw : Nat} {P : Plan} {code : List Int} {R : List Repl} {S : St} {Q : D → Sto → Prop} {E : XP} {u : Lk2 Q E}
abbrev cTail : CS := sSeq (sIf (tE (cUn dIsN (cV 3))) (sFld "Machine" "place" (cV 0) (cMth "Machine" "onward" g_Machine_onward (cV 0) (aCons (cV 1) (aNil)))) (sNil)) (sRet (cV 3))
theorem done_tail {x : String} {vs : List Int} {x2 : Option D} {S' : St} {e : Option Ins} {N : En → Sto → Prop} {v : Lk5 N Q NE NE E} (ok : StOk S') (h : MAt s0 s jm jc jb jd jr jw P code R S') (hi : InsOk x vs)
    (k : ∀ t, MAt s0 t jm jc jb jd jr jw P code R (if e = none then { S' with place := nxt x vs S' } else S') → Q (decD e) t) : ws cTail [some (.box jm), some (insD x vs), x2, some (decD e)] s N Q NE NE E v := by
  unfold cTail
  have hob := h.ob
  cases e with
  | none =>
    rw [if_pos rfl] at k
    unfold decD
    tb_start
    refine w_onward ok h hi ?_
    tb_start
    refine r_setF hob (by simp) fun t ht ft => ?_
    simp at ht
    tb_start
    exact k t (h.setP ft ht)
  | some e =>
    rw [if_neg (by simp)] at k
    unfold decD insD at *
    tb_start
    exact k s h
theorem w_done {x : String} {vs : List Int} (p : P.ok) (ok : StOk S) (h : MAt s0 s jm jc jb jd jr jw P code R S) (hi : InsOk x vs) (lim : Lim R S)
    (k : ∀ t jb', MAt s0 t jm jc jb' jd jr jw P code R (doIns P R x vs S).2 → Q (decD (doIns P R x vs S).1) t) : wp (g_Machine_done [.box jm, insD x vs]) s Q E u := by
  refine u_Machine_done ?_
  unfold c_Machine_done
  have hob := h.ob
  have hbx := h.bx
  have hi' := hi
  have hlen := ok.bl
  have hR : ∀ r ∈ R, ReplOk r := fun r hr => (lim.rep r hr).1
  have ok2 := eff_ok p ok hi hR
  have l1 := lim.m
  have l2 := lim.r
  unfold doIns at k
  dsimp only at k
  have tail : ∀ {t jb'} {x2 : Option D} {N : En → Sto → Prop} {e : D}, MAt s0 t jm jc jb' jd jr jw P code R (eff P R x vs S).2 → e = decD (eff P R x vs S).1 → ws cTail [some (.box jm), some (insD x vs), x2, some e] t N Q NE NE E := fun {t jb' x2 N e} q ee => by
    subst ee
    exact done_tail ok2 q hi' fun t2 q2 => k t2 jb' q2
  unfold insD at tail ⊢
  cases hi with
  | stop =>
    simp only [List.map_cons, List.map_nil] at tail ⊢
    tb_start
    simpa [eff, decD, insD] using k s jb h
  | @put a v a0 a1 v0 v1 =>
    have rk : ∀ (Q' : D → Sto → Prop) (E' : XP), Q' (.int (v)) s → wp (g_reckoned_1 [insD "put" [a, v], .box jb]) s Q' E' := fun Q' E' kk => w_reckoned ok hbx hi' (fun _ _ _ ev => by cases ev; exact kk) (fun _ _ _ c => absurd c (by decide)) (fun _ _ _ c => by simp [isW, isSh] at c) (.inl rfl)
    unfold insD at rk
    simp only [List.map_cons, List.map_nil] at rk
    simp only [List.map_cons, List.map_nil] at tail ⊢
    tb_start
    refine rk _ _ ?_
    tb_start
    refine r_put2L hbx a0 (by simp [hlen]; omega) fun t ht ft => ?_
    rw [set_int] at ht
    exact tail (jb' := jb) (by simpa [eff] using h.setB ft ht) (by simp [eff, decD])
  | @three x a b c hx a0 a1 b0 b1 c0 c1 =>
    have hw : isW x := by rcases hx with rfl | rfl | rfl | rfl | rfl | rfl | rfl | rfl <;> simp [isW, isSh]
    have ne1 : x ≠ "put" := by rcases hx with rfl | rfl | rfl | rfl | rfl | rfl | rfl | rfl <;> decide
    have ne2 : x ≠ "more" := by rcases hx with rfl | rfl | rfl | rfl | rfl | rfl | rfl | rfl <;> decide
    have rk : ∀ (Q' : D → Sto → Prop) (E' : XP), Q' (.int (valI x (geti S.bx b) (geti S.bx c))) s → wp (g_reckoned_1 [insD x [a, b, c], .box jb]) s Q' E' := fun Q' E' kk => w_reckoned ok hbx hi' (fun _ _ c => absurd c ne1) (fun _ _ _ c => absurd c ne2) (fun _ _ _ _ ev => by cases ev; exact kk) (.inr (.inr hw))
    unfold insD at rk
    simp only [List.map_cons, List.map_nil] at rk
    simp only [List.map_cons, List.map_nil] at tail ⊢
    rcases hx with rfl | rfl | rfl | rfl | rfl | rfl | rfl | rfl
    all_goals
      tb_start
      refine rk _ _ ?_
      tb_start
      refine r_put2L hbx a0 (by simp [hlen]; omega) fun t ht ft => ?_
      rw [set_int] at ht
      exact tail (jb' := jb) (by simpa [eff] using h.setB ft ht) (by simp [eff, decD])
  | @more x a b n hx a0 a1 b0 b1 n0 n1 =>
    simp only [List.map_cons, List.map_nil] at tail ⊢
    rcases hx with rfl | rfl | rfl
    · have rk : ∀ (Q' : D → Sto → Prop) (E' : XP), Q' (.int ((geti S.bx b + n) % 4294967296)) s → wp (g_reckoned_1 [insD "more" [a, b, n], .box jb]) s Q' E' := fun Q' E' kk => w_reckoned ok hbx hi' (fun _ _ c => absurd c (by decide)) (fun _ _ _ _ ev => by cases ev; exact kk) (fun _ _ _ c => by simp [isW, isSh] at c) (.inr (.inl rfl))
      unfold insD at rk
      simp only [List.map_cons, List.map_nil] at rk
      tb_start
      refine rk _ _ ?_
      tb_start
      refine r_put2L hbx a0 (by simp [hlen]; omega) fun t ht ft => ?_
      rw [set_int] at ht
      exact tail (jb' := jb) (by simpa [eff] using h.setB ft ht) (by simp [eff, decD])
    · tb_start
      refine w_reach (x := "load") p ok h (.inl rfl) a0 a1 b0 b1 (by omega) fun t ht => ?_
      exact tail (jb' := jb) ht rfl
    · tb_start
      refine w_reach (x := "store") p ok h (.inr rfl) a0 a1 b0 b1 (by omega) fun t ht => ?_
      exact tail (jb' := jb) ht rfl
  | @place x n hx n0 n1 =>
    simp only [List.map_cons, List.map_nil] at tail ⊢
    rcases hx with rfl | rfl
    · have ro : ∀ (Q' : D → Sto → Prop) (E' : XP), Q' (.int (nxt "jump" [n] S)) s → wp (g_Machine_onward [.box jm, insD "jump" [n]]) s Q' E' := fun Q' E' kk => w_onward ok h hi' kk
      unfold insD at ro
      simp only [List.map_cons, List.map_nil] at ro
      tb_start
      refine ro _ _ ?_
      tb_start
      refine r_setF hob (by simp) fun t ht ft => ?_
      simp at ht
      tb_start
      exact k t jb (h.setP ft ht)
    · tb_start
      refine w_gate p ok h (by omega) (by omega) lim.rep fun t jb' ht => ?_
      exact tail (jb' := jb') ht rfl
  | @jumpif a n a0 a1 n0 n1 =>
    have ro : ∀ (Q' : D → Sto → Prop) (E' : XP), Q' (.int (nxt "jumpif" [a, n] S)) s → wp (g_Machine_onward [.box jm, insD "jumpif" [a, n]]) s Q' E' := fun Q' E' kk => w_onward ok h hi' kk
    unfold insD at ro
    simp only [List.map_cons, List.map_nil] at ro
    simp only [List.map_cons, List.map_nil] at tail ⊢
    tb_start
    refine ro _ _ ?_
    tb_start
    refine r_setF hob (by simp) fun t ht ft => ?_
    simp at ht
    tb_start
    exact k t jb (h.setP ft ht)
  | @through b b0 b1 =>
    have ro : ∀ (Q' : D → Sto → Prop) (E' : XP), Q' (.int (nxt "through" [b] S)) s → wp (g_Machine_onward [.box jm, insD "through" [b]]) s Q' E' := fun Q' E' kk => w_onward ok h hi' kk
    unfold insD at ro
    simp only [List.map_cons, List.map_nil] at ro
    simp only [List.map_cons, List.map_nil] at tail ⊢
    tb_start
    refine ro _ _ ?_
    tb_start
    refine r_setF hob (by simp) fun t ht ft => ?_
    simp at ht
    tb_start
    exact k t jb (h.setP ft ht)
  | @two x a b hx a0 a1 b0 b1 =>
    have rk : ∀ (Q' : D → Sto → Prop) (E' : XP), Q' (.int (if x = "fit" then fitI P.k P.b (geti S.bx b) else aimI P.m P.s (geti S.bx b))) s → wp (g_masked_1 [P.d, insD x [a, b], .box jb]) s Q' E' := fun Q' E' kk => w_masked p ok hbx b0 b1 hx kk
    unfold insD at rk
    simp only [List.map_cons, List.map_nil] at rk tail ⊢
    rcases hx with rfl | rfl
    all_goals
      tb_start
      refine rk _ _ ?_
      tb_start
      refine r_put2L hbx a0 (by simp [hlen]; omega) fun t ht ft => ?_
      rw [set_int] at ht
      exact tail (jb' := jb) (by simpa [eff] using h.setB ft ht) (by simp [eff, decD])
end
end P

set_option Elab.async false
set_option linter.all false
set_option maxRecDepth 100000
set_option maxHeartbeats 4000000
/-! the machine: a run -/
namespace P
open PySem L2 G
local macro_rules | `(tactic| top_raise0) => `(tactic| first | omega | (unfold mulOk; omega) | ((repeat' (apply And.intro)) <;> first | omega | with_reducible assumption | rfl | (unfold mulOk; omega)))
local macro_rules | `(tactic| k_upd) => `(tactic| first | with_reducible assumption | ((with_reducible refine At.fr0 (by with_reducible assumption) ?_); k_upd) | ((with_reducible refine At.fr1 (by with_reducible assumption) ?_ ?_); (focus k_upd); top_raise) | ((with_reducible refine At.fr2 (by with_reducible assumption) ?_ ?_ ?_); (focus k_upd); (focus top_raise); top_raise))
local macro_rules | `(tactic| k_updF) => `(tactic| first | with_reducible assumption | with_reducible exact At.lt (by with_reducible assumption) | ((with_reducible refine Fr.lt (by with_reducible assumption) ?_); k_updF))
local macro_rules | `(tactic| top_raise) => `(tactic| first | with_reducible assumption | ((with_reducible refine Nw.ne (by with_reducible assumption) ?_); k_updF) | ((with_reducible refine Nw.ne' (by with_reducible assumption) ?_); k_updF) | omega)
local macro_rules | `(tactic| kbo_bools) => `(tactic| simp -dsimp)
local macro_rules | `(tactic| kat_tups) => `(tactic| first | rfl | with_reducible assumption | exact atI_nat rfl)
local macro_rules | `(tactic| tb_rel) => `(tactic| first
   | ((with_reducible refine gd_i ?_ ?_); (focus first | exact ⟨_, lAt_at (by k_upd)⟩ | top_raise0))
   | ((with_reducible apply atK_i); (focus kat_tups))
   | ((with_reducible apply r_ix); (focus k_upd))
   | ((with_reducible apply r_len); (focus k_upd))
   | ((with_reducible apply r_inL); (focus k_upd); (focus (simp; done)))
   | ((with_reducible apply r_chk); (focus k_upd))
   | ((with_reducible refine r_new ?_); intro _ _ _ _ _)
   | ((with_reducible apply r_app); (focus k_upd); (focus top_raise0); intro _ hA _; (try simp only [List.nil_append, List.cons_append] at hA))
   | ((with_reducible apply r_putT); (focus k_upd); (focus top_caught); (focus top_caught); intro _ hA _; (try simp only [Int.reduceToNat, List.set_cons_zero, List.set_cons_succ] at hA))
   | (with_reducible refine ws_for ?_)
   | (with_reducible refine wfor_t1 ?_)
   | (with_reducible refine wfor_t0 ?_)
   | ((with_reducible refine r_eqO ?_ ?_ ?_); (focus (simp [okD, okL]; done)); (focus (simp [dpD, dpL]; done)))
   | ((with_reducible refine r_neO ?_ ?_ ?_); (focus (simp [okD, okL]; done)); (focus (simp [dpD, dpL]; done)))
   | ((with_reducible refine sel_t ?_ ?_); (focus top_raise0))
   | ((with_reducible refine sel_f ?_ ?_); (focus top_raise0)))
local macro_rules | `(tactic| tb_start) => `(tactic| repeat (first | kbo_bools | tb_rel))
local macro_rules | `(tactic| top_caught) => `(tactic| first | omega | (simp; done) | (simp; omega) | (simp; constructor <;> omega))
local macro_rules | `(tactic| top_name) => `(tactic| first | with_reducible assumption | exact Fr.refl | ((with_reducible refine Fr.trans ?_ (by with_reducible assumption)); top_name) | ((with_reducible refine Fr.trans ?_ (Fr.up (by with_reducible assumption))); top_name) | ((with_reducible refine Fr.new ?_ ?_ (by with_reducible assumption)); (focus top_name); allgen_close_more) | ((with_reducible refine Fr.new2 ?_ ?_ (by with_reducible assumption) (by simp)); (focus top_name); allgen_close_more))
local macro_rules | `(tactic| allgen_close_more) => `(tactic| first | with_reducible assumption | ((with_reducible refine Fr.nw (by with_reducible assumption) ?_); allgen_close_more))
local macro_rules | `(tactic| allgen_close2_more) => `(tactic| simp only [fill_some, fill_none, fill_nil, Nat.reduceAdd])
local macro_rules | `(tactic| tb_rel) => `(tactic| first
   | ((with_reducible apply r_fld); (focus k_upd))
   | ((with_reducible apply r_chkO); (focus k_upd); (focus (simp; done)))
   | ((with_reducible apply r_chkD); (focus k_upd))
   | ((with_reducible apply r_dict); (focus k_upd))
   | ((with_reducible apply r_tupleB); (focus k_upd))
   | ((with_reducible apply r_listB); (focus k_upd))
   | ((with_reducible apply r_ix2L); (focus k_upd))
   | ((with_reducible apply onIt_i); (focus k_upd)))
local macro_rules | `(tactic| tb_rel) => `(tactic| ((with_reducible apply r_setF); (focus k_upd); (focus (simp; done)); intro _ hF _; (try simp at hF)))
theorem dec_ok {w : Int} {nx : Option Int} {i : Ins} (hw : V32 w) (hn : ∀ v, nx = some v → V32 v) (h : dec w nx = some i) : InsOk i.1 i.2 := by
  obtain ⟨w0, w1⟩ := hw
  unfold dec at h
  split at h
  · cases h
  · split at h
    · cases nx with
      | none => cases h
      | some v =>
        dsimp only at h
        split at h
        · cases h; exact .put (by omega) (by omega) (hn v rfl).1 (hn v rfl).2
        · cases h
    · rename_i c1 c2
      dsimp only at h
      split at h
      · have e := Option.some.inj h
        rw [← e]
        have s1 : -131072 ≤ sgn (w % 262144) := by unfold sgn; omega
        have s2 : sgn (w % 262144) < 131072 := by unfold sgn; omega
        rcases (by omega : w / 134217728 = 0 ∨ w / 134217728 = 2 ∨ w / 134217728 = 3 ∨ w / 134217728 = 4 ∨ w / 134217728 = 5 ∨ w / 134217728 = 6 ∨ w / 134217728 = 7 ∨ w / 134217728 = 8 ∨ w / 134217728 = 9 ∨ w / 134217728 = 10 ∨ w / 134217728 = 11 ∨ w / 134217728 = 12 ∨ w / 134217728 = 13 ∨ w / 134217728 = 14 ∨ w / 134217728 = 15 ∨ w / 134217728 = 16 ∨ w / 134217728 = 17 ∨ w / 134217728 = 18) with c | c | c | c | c | c | c | c | c | c | c | c | c | c | c | c | c | c
        all_goals
          rw [c]
          simp only [rdV, Int.reduceEq, if_true, if_false]
        · exact .stop
        iterate 8 exact .three (by simp) (by omega) (by omega) (by omega) (by omega) (by omega) (by omega)
        iterate 3 exact .more (by simp) (by omega) (by omega) (by omega) (by omega) s1 s2
        · exact .place (by simp) (by omega) (by omega)
        · exact .jumpif (by omega) (by omega) (by omega) (by omega)
        · exact .through (by omega) (by omega)
        · exact .two (by simp) (by omega) (by omega) (by omega) (by omega)
        · exact .two (by simp) (by omega) (by omega) (by omega) (by omega)
        · exact .place (by simp) (by omega) (by omega)
      · cases h
theorem insAt_ok {code : List Int} {p : Int} {i : Ins} (hc : Vals32 code) (h : insAt code p = some i) : InsOk i.1 i.2 := by
  unfold insAt at h
  split at h
  · rename_i c
    have hl : p.toNat < code.length := by omega
    refine dec_ok ?_ (fun v hv => hc v (List.mem_of_getElem? hv)) h
    rw [List.getD_eq_getElem?_getD, List.getElem?_eq_getElem hl]
    exact hc _ (List.getElem_mem hl)
  · cases h
/-- rows and memory grow by few -/
theorem eff_lim {P : Plan} {R : List Repl} {S : St} {x : String} {vs : List Int} {c : Nat} (h : ∀ r ∈ R, r.2.length ≤ c) (h1 : 1 ≤ c) : (eff P R x vs S).2.mem.length ≤ S.mem.length + c ∧ (eff P R x vs S).2.rows.length ≤ S.rows.length + 1 := by
  unfold eff
  split
  · simp
  · split
    · simp
    · split
      · simp
      · split
        · simp
        · refine ⟨?_, by simp⟩
          have := mergeM_len (M := S.mem) (N := (R.getD S.rows.length ([], [])).2)
          have q : (R.getD S.rows.length ([], [])).2.length ≤ c := by
            rw [List.getD_eq_getElem?_getD]
            cases e : R[S.rows.length]? with
            | none => simp
            | some r => exact h r (List.mem_of_getElem? e)
          dsimp only
          omega
  · split
    · simp
    · split <;> simp
  · split
    · split
      · split
        · simp
        · have := putM_len (M := S.mem) (k := (geti S.bx ‹_› + ‹_›) % 4294967296) (v := 0)
          refine ⟨?_, by simp⟩
          dsimp only
          refine Nat.le_trans putM_len (by omega)
      · simp
    · simp
  · simp
theorem doIns_lim {P : Plan} {R : List Repl} {S : St} {x : String} {vs : List Int} {c : Nat} (h : ∀ r ∈ R, r.2.length ≤ c) (h1 : 1 ≤ c) : (doIns P R x vs S).2.mem.length ≤ S.mem.length + c ∧ (doIns P R x vs S).2.rows.length ≤ S.rows.length + 1 := by
  have := eff_lim (P := P) (S := S) (x := x) (vs := vs) h h1
  unfold doIns
  dsimp only
  split <;> exact this
theorem RowsR.other {s0 s t : Sto} {jd j : Nat} {rds : List D} {rows : List (Int × List Int × Mem)} (h : RowsR s0 s jd rds rows) (f : Fr [] s t) (n : Nw s j) : RowsR s0 t j rds rows := ⟨h.1, fun i r e => by
  obtain ⟨k, h1, h2, h3, h4⟩ := h.2 i r e
  exact ⟨k, h1, h2.fr0 f, h3, n.ne h2.lt, h4.2⟩⟩
@[simp] theorem isNon_ins {x : String} {vs : List Int} : isNon (insD x vs) = false := rfl
/-- what a run tells -/
def ResR (s0 t : Sto) (e : Ins) (S : St) (n : Int) (d : D) : Prop := ∃ jd jw rds, d = .tup [insD e.1 e.2, .tup [.int S.place, .tup (S.bx.map D.int), .box jd], .box jw, .int n] ∧ At t jd (.dk (mD S.mem)) ∧ At t jw (.lst rds) ∧ RowsR s0 t jd rds S.rows ∧ Nw s0 jd ∧ Nw s0 jw
section
variable {s : Sto} {P : Plan} {code : List Int} {R : List Repl} {S : St} {Q : D → Sto → Prop} {E : XP} {u : Lk2 Q E}
theorem w_init {s0 : Sto} {jm jc jr jd : Nat} {rds : List D} {pl : Int} {bx : List Int} {M : Mem} (hm : At s jm (.ins "Machine" [])) (nm : Nw s0 jm) (f0 : Fr [] s0 s) (hc : At s0 jc (.lst (code.map D.int))) (hr : At s0 jr (.lst rds)) (hd : At s0 jd (.dk (mD M))) (hR : RepR s0 s0 rds R)
    (k : ∀ t jc' jb' jd' jr' jw', MAt s0 t jm jc' jb' jd' jr' jw' P code R ⟨pl, bx, M, []⟩ → Q .non t) : wp (g_Machine_init [.box jm, P.d, .box jc, .tup [.int pl, .tup (bx.map D.int), .box jd], .box jr]) s Q E u := by
  refine u_Machine_init ?_
  unfold c_Machine_init
  have n1 : jm ≠ jc := nm.ne' hc.lt
  have n2 : jm ≠ jr := nm.ne' hr.lt
  have n3 : jm ≠ jd := nm.ne' hd.lt
  have hc1 := hc.fr0 f0
  have hr1 := hr.fr0 f0
  have hd1 := hd.fr0 f0
  tb_start
  rename_i t1 m1 f1 t2 jc' c2 w2 f2 t3 f3 m3 t4 f4 m4 t5 jb' b5 w5 f5 t6 f6 m6 t7 jd' d7 w7 f7 t8 f8 m8 t9 jr' r9 w9 f9 t10 f10 m10 t11 jw' x11 w11 f11 t12 f12 m12
  have lc : jc' < t4.length := by k_updF
  have lb : jb' < t8.length := by k_updF
  have lb2 : jb' < t10.length := by k_updF
  have lr : jr' < t10.length := by k_updF
  have lc8 : jc' < t10.length := by k_updF
  have F1 : Fr [] s0 t1 := f0.new nm f1
  have F4 : Fr [] s0 t4 := ((F1.trans f2).new nm f3).new nm f4
  have F6 : Fr [] s0 t6 := (F4.trans f5).new nm f6
  have F8 : Fr [] s0 t8 := (F6.trans f7).new nm f8
  have F10 : Fr [] s0 t10 := (F8.trans f9).new nm f10
  have F12 : Fr [] s0 t12 := (F10.trans f11).new nm f12
  refine k t12 jc' jb' jd' jr' jw' ⟨m12, by k_upd, by k_upd, by k_upd, ⟨rds, by k_upd, hR.fr F12 (by simp)⟩, ⟨[], by k_upd, rfl, fun i r e => by simp at e⟩, nm, F1.nw w2, F4.nw w5, F6.nw w7, F8.nw w9, F10.nw w11, ?_, ?_, ?_, ?_, ?_, F12⟩
  · exact w5.ne lc
  · exact w11.ne lc8
  · exact w9.ne lb
  · exact w11.ne lb2
  · exact w11.ne lr
theorem w_stand {s0 : Sto} {jm jc jb jd jr jw : Nat} (h : MAt s0 s jm jc jb jd jr jw P code R S) (k : ∀ t j, At t j (.dk (mD S.mem)) → Nw s j → Fr [] s t → Q (.tup [.int S.place, .tup (S.bx.map D.int), .box j]) t) : wp (g_Machine_stand [.box jm]) s Q E u := by
  refine u_Machine_stand ?_
  unfold c_Machine_stand
  have hob := h.ob
  have hbx := h.bx
  have hmem := h.mem
  tb_start
  exact k _ _ (by k_upd) (by allgen_close_more) (by top_name)
theorem w_run {j jr jd : Nat} {rds : List D} {pl most : Int} {bx : List Int} {M : Mem} (p : P.ok) (hc : At s j (.lst (code.map D.int))) (hc0 : Vals32 code) (hr : At s jr (.lst rds)) (hd : At s jd (.dk (mD M))) (hR : RepR s s rds R) (ok : StOk ⟨pl, bx, M, []⟩)
    (m0 : 0 ≤ most) (m1 : most ≤ 1000) (hM : M.length ≤ 250000) (hRo : ∀ r ∈ R, ReplOk r ∧ r.2.length ≤ 100)
    (k : ∀ t d, ResR s t (mrun P code R most (most.toNat + 1) ⟨pl, bx, M, []⟩ 0).1 (mrun P code R most (most.toNat + 1) ⟨pl, bx, M, []⟩ 0).2.1 (mrun P code R most (most.toNat + 1) ⟨pl, bx, M, []⟩ 0).2.2 d → Fr [] s t → Q d t) :
    wp (g_run [P.d, .box j, .tup [.int pl, .tup (bx.map D.int), .box jd], .box jr, .int most]) s Q E u := by
  refine u_run ?_
  unfold c_run
  generalize hres : mrun P code R most (most.toNat + 1) ⟨pl, bx, M, []⟩ 0 = res at k
  tb_start
  rename_i t1 jm hm nm f1
  refine w_init (P := P) (code := code) (R := R) hm nm f1 hc hr hd hR fun t2 jc' jb' jd' jr' jw' hA => ?_
  tb_start
  refine ws_while (σ := St × Int × Option Ins × Nat) (fun a => [some P.d, some (.box j), some (.tup [.int pl, .tup (bx.map D.int), .box jd]), some (.box jr), some (.int most), some (.box jm), some (.int a.2.1), some (decD a.2.2.1), none])
    (fun a t => MAt s t jm jc' a.2.2.2 jd' jr' jw' P code R a.1 ∧ StOk a.1 ∧ 0 ≤ a.2.1 ∧ a.2.1 ≤ most ∧ (a.1.mem.length : Int) ≤ 250000 + 100 * a.2.1 ∧ (a.1.rows.length : Int) ≤ a.2.1 ∧
      (match a.2.2.1 with | none => mrun P code R most ((most - a.2.1).toNat + 1) a.1 a.2.1 = res | some e => (e, a.1, a.2.1) = res))
    (fun a => match a.2.2.1 with | none => (most - a.2.1).toNat + 1 | some _ => 0) (⟨pl, bx, M, []⟩, 0, none, jb') ?_ ?_ ?_ ?_
  · show (most - 0).toNat + 1 < 100000
    omega
  · exact ⟨rfl, rfl, rfl, rfl, rfl, rfl, rfl, rfl, trivial⟩
  · refine ⟨hA, ok, Int.le_refl _, m0, by show (M.length : Int) ≤ 250000 + 100 * 0; omega, by simp, ?_⟩
    show mrun P code R most ((most - 0).toNat + 1) _ 0 = res
    rw [Int.sub_zero]
    exact hres
  · rintro ⟨S, n, e, jb2⟩ f t ⟨hB, ok2, n0, n1, lm, lr, he⟩
    dsimp only at hB ok2 n0 n1 lm lr he
    have hob := hB.ob
    cases e with
    | some e =>
      dsimp only at he
      subst he
      unfold decD insD
      tb_start
      refine w_stand hB fun t3 j3 h3 n3 f3 => ?_
      have hC := hB.fr0 f3
      have hob3 := hC.ob
      obtain ⟨rw_, g1, g2⟩ := hC.rows
      tb_start
      obtain ⟨rw2, y1, y2⟩ := hB.rows
      have y3 := (y1.fr0 f3).same g1
      cases y3
      exact k t3 _ ⟨j3, jw', _, rfl, h3, g1, y2.other f3 n3, hB.fr.nw n3, hC.nw⟩ hC.fr
    | none =>
      dsimp only at he
      unfold decD
      tb_start
      refine w_insAt hB.code hc0 fun t3 f3 => ?_
      have hC := hB.fr0 f3
      have hob3 := hC.ob
      cases hi : insAt code S.place with
      | none =>
        have he : (("lost", []), S, n) = res := by rw [← he]; unfold mrun; rw [hi]
        unfold decD
        tb_start
        refine dn_i ⟨(S, n, some ("lost", []), jb2), ?_, ?_, hC, ok2, n0, n1, lm, lr, he⟩
        · show 0 < (most - n).toNat + 1
          omega
        · exact ⟨rfl, rfl, rfl, rfl, rfl, rfl, rfl, rfl, trivial⟩
      | some i =>
        have hok := insAt_ok hc0 hi
        by_cases c : n = most
        · have he : (("spent", []), S, n) = res := by rw [← he]; unfold mrun; rw [hi]; simp only [if_pos c]
          unfold decD insD
          tb_start
          refine dn_i ⟨(S, n, some ("spent", []), jb2), ?_, ?_, hC, ok2, n0, n1, lm, lr, he⟩
          · show 0 < (most - n).toNat + 1
            omega
          · exact ⟨rfl, rfl, rfl, rfl, rfl, rfl, rfl, rfl, trivial⟩
        · unfold decD
          have lim : Lim R S := ⟨by omega, by omega, fun r hr => ⟨(hRo r hr).1, by have := (hRo r hr).2; omega⟩⟩
          have dl := doIns_lim (P := P) (S := S) (x := i.1) (vs := i.2) (c := 100) (fun r hr => (hRo r hr).2) (by decide)
          have dok := doIns_ok p ok2 hok fun r hr => (hRo r hr).1
          have he2 : (match doIns P R i.1 i.2 S with
            | (some e, s') => (e, s', n + 1)
            | (none, s') => mrun P code R most ((most - (n + 1)).toNat + 1) s' (n + 1)) = res := by
            rw [← he]
            conv => rhs; unfold mrun
            rw [hi]
            simp only [if_neg c]
            have : (most - n).toNat = (most - (n + 1)).toNat + 1 := by omega
            rw [this]
            all_goals
              cases doIns P R i.1 i.2 S with
              | mk eo s' => cases eo <;> rfl
          tb_start
          refine w_done p ok2 hC hok lim fun t4 jb3 hD => ?_
          generalize hdo : doIns P R i.1 i.2 S = dd at hD he2 dl dok ⊢
          obtain ⟨eo, S'⟩ := dd
          dsimp only at hD he2 dl dok ⊢
          cases eo with
          | none =>
            tb_start
            refine dn_i ⟨(S', n + 1, none, jb3), ?_, ?_, hD, dok, (by show 0 ≤ n + 1; omega), (by show n + 1 ≤ most; omega), ?_, ?_, he2⟩
            · show (most - (n + 1)).toNat + 1 < (most - n).toNat + 1
              omega
            · exact ⟨rfl, rfl, rfl, rfl, rfl, rfl, rfl, rfl, trivial⟩
            · show (S'.mem.length : Int) ≤ 250000 + 100 * (n + 1)
              omega
            · show (S'.rows.length : Int) ≤ n + 1
              omega
          | some e =>
            tb_start
            refine dn_i ⟨(S', n + 1, some e, jb3), ?_, ?_, hD, dok, (by show 0 ≤ n + 1; omega), (by show n + 1 ≤ most; omega), ?_, ?_, he2⟩
            · show 0 < (most - n).toNat + 1
              omega
            · exact ⟨rfl, rfl, rfl, rfl, rfl, rfl, rfl, rfl, trivial⟩
            · show (S'.mem.length : Int) ≤ 250000 + 100 * (n + 1)
              omega
            · show (S'.rows.length : Int) ≤ n + 1
              omega
end
end P

set_option Elab.async false
set_option linter.all false
set_option maxRecDepth 100000
set_option maxHeartbeats 4000000
/-! the machine laws' own look at words -/
namespace P
open PySem L2 G
local macro_rules | `(tactic| top_raise0) => `(tactic| first | omega | (unfold mulOk; omega) | ((repeat' (apply And.intro)) <;> first | omega | with_reducible assumption | rfl | (unfold mulOk; omega)))
local macro_rules | `(tactic| k_upd) => `(tactic| first | with_reducible assumption | ((with_reducible refine At.fr0 (by with_reducible assumption) ?_); k_upd) | ((with_reducible refine At.fr1 (by with_reducible assumption) ?_ ?_); (focus k_upd); top_raise) | ((with_reducible refine At.fr2 (by with_reducible assumption) ?_ ?_ ?_); (focus k_upd); (focus top_raise); top_raise))
local macro_rules | `(tactic| k_updF) => `(tactic| first | with_reducible assumption | with_reducible exact At.lt (by with_reducible assumption) | ((with_reducible refine Fr.lt (by with_reducible assumption) ?_); k_updF))
local macro_rules | `(tactic| top_raise) => `(tactic| first | with_reducible assumption | ((with_reducible refine Nw.ne (by with_reducible assumption) ?_); k_updF) | ((with_reducible refine Nw.ne' (by with_reducible assumption) ?_); k_updF) | omega)
local macro_rules | `(tactic| kbo_bools) => `(tactic| simp -dsimp)
local macro_rules | `(tactic| kat_tups) => `(tactic| first | rfl | with_reducible assumption | exact atI_nat rfl)
local macro_rules | `(tactic| tb_rel) => `(tactic| first
   | ((with_reducible refine gd_i ?_ ?_); (focus first | exact ⟨_, lAt_at (by k_upd)⟩ | top_raise0))
   | ((with_reducible apply atK_i); (focus kat_tups))
   | ((with_reducible apply r_ix); (focus k_upd))
   | ((with_reducible apply r_len); (focus k_upd))
   | ((with_reducible apply r_inL); (focus k_upd); (focus (simp; done)))
   | ((with_reducible apply r_chk); (focus k_upd))
   | ((with_reducible refine r_new ?_); intro _ _ _ _ _)
   | ((with_reducible apply r_app); (focus k_upd); (focus top_raise0); intro _ hA _; (try simp only [List.nil_append, List.cons_append] at hA))
   | ((with_reducible apply r_putT); (focus k_upd); (focus top_caught); (focus top_caught); intro _ hA _; (try simp only [Int.reduceToNat, List.set_cons_zero, List.set_cons_succ] at hA))
   | (with_reducible refine ws_for ?_)
   | (with_reducible refine wfor_t1 ?_)
   | (with_reducible refine wfor_t0 ?_)
   | ((with_reducible refine r_eqO ?_ ?_ ?_); (focus (simp [okD, okL]; done)); (focus (simp [dpD, dpL]; done)))
   | ((with_reducible refine r_neO ?_ ?_ ?_); (focus (simp [okD, okL]; done)); (focus (simp [dpD, dpL]; done)))
   | ((with_reducible refine sel_t ?_ ?_); (focus top_raise0))
   | ((with_reducible refine sel_f ?_ ?_); (focus top_raise0)))
local macro_rules | `(tactic| tb_start) => `(tactic| repeat (first | kbo_bools | tb_rel))
local macro_rules | `(tactic| top_caught) => `(tactic| first | omega | (simp; done) | (simp; omega) | (simp; constructor <;> omega))
local macro_rules | `(tactic| top_name) => `(tactic| first | with_reducible assumption | exact Fr.refl | ((with_reducible refine Fr.trans ?_ (by with_reducible assumption)); top_name) | ((with_reducible refine Fr.trans ?_ (Fr.up (by with_reducible assumption))); top_name) | ((with_reducible refine Fr.new ?_ ?_ (by with_reducible assumption)); (focus top_name); allgen_close_more) | ((with_reducible refine Fr.new2 ?_ ?_ (by with_reducible assumption) (by simp)); (focus top_name); allgen_close_more))
local macro_rules | `(tactic| allgen_close_more) => `(tactic| first | with_reducible assumption | ((with_reducible refine Fr.nw (by with_reducible assumption) ?_); allgen_close_more))
local macro_rules | `(tactic| allgen_close2_more) => `(tactic| simp only [fill_some, fill_none, fill_nil, Nat.reduceAdd])
local macro_rules | `(tactic| tb_rel) => `(tactic| first
   | ((with_reducible apply r_fld); (focus k_upd))
   | ((with_reducible apply r_chkO); (focus k_upd); (focus (simp; done)))
   | ((with_reducible apply r_chkD); (focus k_upd))
   | ((with_reducible apply r_dict); (focus k_upd))
   | ((with_reducible apply r_tupleB); (focus k_upd))
   | ((with_reducible apply r_listB); (focus k_upd))
   | ((with_reducible apply r_ix2L); (focus k_upd))
   | ((with_reducible apply onIt_i); (focus k_upd)))
abbrev sortL : List D := [.str "stop", .str "put", .str "add", .str "sub", .str "and", .str "or", .str "xor", .str "less", .str "left", .str "right", .str "more", .str "load", .str "store", .str "jump", .str "jumpif", .str "through", .str "fit", .str "aim", .str "gate"]
theorem sgn_lo2 {w : Int} : -131072 ≤ sgn (w % 262144) := by unfold sgn; omega
theorem sgn_hi2 {w : Int} : sgn (w % 262144) < 131072 := by unfold sgn; omega
theorem insAt_nat {code : List Int} {p : Nat} {w : Int} (hp : code[p]? = some w) : insAt code p = dec w code[p + 1]? := by
  have lp := (List.getElem?_eq_some_iff.mp hp).1
  exact insAt_in (p := p) (by omega) (by omega) (by simpa using hp)
theorem pick_sgn {n : Int} {k : D → Prop} {u : Lk1 k} (h : k (.int (sgn n))) : atK [.int n, .int (n - 262144)] (if 131072 ≤ n then 1 else 0) k u := by
  unfold sgn at h
  refine atK_if (fun c => ?_) (fun c => ?_)
  · rw [if_pos c] at h; exact h
  · rw [if_neg c] at h; exact h
section
variable {s : Sto} {Q : D → Sto → Prop} {E : XP} {u : Lk2 Q E}
theorem w_sorts (k : ∀ t j, At t j (.lst sortL) → Nw s j → Fr [] s t → Q (.box j) t) : wp (g_law_sorts []) s Q E u := by
  refine u_law_sorts ?_
  unfold c_law_sorts
  tb_start
  refine r_addL (by k_upd) (by k_upd) (by decide) ?_
  tb_start
  exact k _ _ (by k_upd) (by allgen_close_more) (by top_name)
theorem w_words2 {x : String} {vs : List Int} (h : InsOk x vs) (k : ∀ t b, At t b (.lst ((wds x vs).map D.int)) → Nw s b → Fr [] s t → Q (.box b) t) : wp (g_law_words_2 [insD x vs]) s Q E u := by
  refine u_law_words_2 ?_
  unfold c_law_words_2 insD
  have fin : ∀ t b (l : List D), At t b (.lst l) → l = (wds x vs).map D.int → Nw s b → Fr [] s t → Q (.box b) t := fun t b l q e => by subst e; exact k t b q
  clear k
  cases h with
  --@cases words2
  | stop =>
    simp only [List.map_cons, List.map_nil]
    tb_start
    refine w_sorts fun t9 j9 h9 n9 f9 => ?_
    tb_start
    refine r_index (k := 0) (by k_upd) (by decide) (by decide) ?_
    tb_start
    exact fin _ _ _ (by k_upd) (by simp [wds, kod]) (by allgen_close_more) (by top_name)
  | @put a v a0 a1 v0 v1 =>
    simp only [List.map_cons, List.map_nil]
    tb_start
    refine w_sorts fun t9 j9 h9 n9 f9 => ?_
    tb_start
    refine r_index (k := 1) (by k_upd) (by decide) (by decide) ?_
    tb_start
    exact fin _ _ _ (by k_upd) (by simp [wds, kod]) (by allgen_close_more) (by top_name)
  | @three x a b c hx a0 a1 b0 b1 c0 c1 =>
    simp only [List.map_cons, List.map_nil]
    rcases hx with rfl | rfl | rfl | rfl | rfl | rfl | rfl | rfl
    · tb_start
      refine w_sorts fun t9 j9 h9 n9 f9 => ?_
      tb_start
      refine r_index (k := 2) (by k_upd) (by decide) (by decide) ?_
      tb_start
      exact fin _ _ _ (by k_upd) (by simp [wds, kod]) (by allgen_close_more) (by top_name)
    · tb_start
      refine w_sorts fun t9 j9 h9 n9 f9 => ?_
      tb_start
      refine r_index (k := 3) (by k_upd) (by decide) (by decide) ?_
      tb_start
      exact fin _ _ _ (by k_upd) (by simp [wds, kod]) (by allgen_close_more) (by top_name)
    · tb_start
      refine w_sorts fun t9 j9 h9 n9 f9 => ?_
      tb_start
      refine r_index (k := 4) (by k_upd) (by decide) (by decide) ?_
      tb_start
      exact fin _ _ _ (by k_upd) (by simp [wds, kod]) (by allgen_close_more) (by top_name)
    · tb_start
      refine w_sorts fun t9 j9 h9 n9 f9 => ?_
      tb_start
      refine r_index (k := 5) (by k_upd) (by decide) (by decide) ?_
      tb_start
      exact fin _ _ _ (by k_upd) (by simp [wds, kod]) (by allgen_close_more) (by top_name)
    · tb_start
      refine w_sorts fun t9 j9 h9 n9 f9 => ?_
      tb_start
      refine r_index (k := 6) (by k_upd) (by decide) (by decide) ?_
      tb_start
      exact fin _ _ _ (by k_upd) (by simp [wds, kod]) (by allgen_close_more) (by top_name)
    · tb_start
      refine w_sorts fun t9 j9 h9 n9 f9 => ?_
      tb_start
      refine r_index (k := 7) (by k_upd) (by decide) (by decide) ?_
      tb_start
      exact fin _ _ _ (by k_upd) (by simp [wds, kod]) (by allgen_close_more) (by top_name)
    · tb_start
      refine w_sorts fun t9 j9 h9 n9 f9 => ?_
      tb_start
      refine r_index (k := 8) (by k_upd) (by decide) (by decide) ?_
      tb_start
      exact fin _ _ _ (by k_upd) (by simp [wds, kod]) (by allgen_close_more) (by top_name)
    · tb_start
      refine w_sorts fun t9 j9 h9 n9 f9 => ?_
      tb_start
      refine r_index (k := 9) (by k_upd) (by decide) (by decide) ?_
      tb_start
      exact fin _ _ _ (by k_upd) (by simp [wds, kod]) (by allgen_close_more) (by top_name)
  | @more x a b n hx a0 a1 b0 b1 n0 n1 =>
    simp only [List.map_cons, List.map_nil]
    rcases hx with rfl | rfl | rfl
    · tb_start
      refine w_sorts fun t9 j9 h9 n9 f9 => ?_
      tb_start
      refine r_index (k := 10) (by k_upd) (by decide) (by decide) ?_
      tb_start
      exact fin _ _ _ (by k_upd) (by simp [wds, kod]) (by allgen_close_more) (by top_name)
    · tb_start
      refine w_sorts fun t9 j9 h9 n9 f9 => ?_
      tb_start
      refine r_index (k := 11) (by k_upd) (by decide) (by decide) ?_
      tb_start
      exact fin _ _ _ (by k_upd) (by simp [wds, kod]) (by allgen_close_more) (by top_name)
    · tb_start
      refine w_sorts fun t9 j9 h9 n9 f9 => ?_
      tb_start
      refine r_index (k := 12) (by k_upd) (by decide) (by decide) ?_
      tb_start
      exact fin _ _ _ (by k_upd) (by simp [wds, kod]) (by allgen_close_more) (by top_name)
  | @place x n hx n0 n1 =>
    simp only [List.map_cons, List.map_nil]
    rcases hx with rfl | rfl
    · tb_start
      refine w_sorts fun t9 j9 h9 n9 f9 => ?_
      tb_start
      refine r_index (k := 13) (by k_upd) (by decide) (by decide) ?_
      tb_start
      exact fin _ _ _ (by k_upd) (by simp [wds, kod]) (by allgen_close_more) (by top_name)
    · tb_start
      refine w_sorts fun t9 j9 h9 n9 f9 => ?_
      tb_start
      refine r_index (k := 18) (by k_upd) (by decide) (by decide) ?_
      tb_start
      exact fin _ _ _ (by k_upd) (by simp [wds, kod]) (by allgen_close_more) (by top_name)
  | @jumpif a n a0 a1 n0 n1 =>
    simp only [List.map_cons, List.map_nil]
    tb_start
    refine w_sorts fun t9 j9 h9 n9 f9 => ?_
    tb_start
    refine r_index (k := 14) (by k_upd) (by decide) (by decide) ?_
    tb_start
    exact fin _ _ _ (by k_upd) (by simp [wds, kod]) (by allgen_close_more) (by top_name)
  | @through b b0 b1 =>
    simp only [List.map_cons, List.map_nil]
    tb_start
    refine w_sorts fun t9 j9 h9 n9 f9 => ?_
    tb_start
    refine r_index (k := 15) (by k_upd) (by decide) (by decide) ?_
    tb_start
    exact fin _ _ _ (by k_upd) (by simp [wds, kod]) (by allgen_close_more) (by top_name)
  | @two x a b hx a0 a1 b0 b1 =>
    simp only [List.map_cons, List.map_nil]
    rcases hx with rfl | rfl
    · tb_start
      refine w_sorts fun t9 j9 h9 n9 f9 => ?_
      tb_start
      refine r_index (k := 16) (by k_upd) (by decide) (by decide) ?_
      tb_start
      exact fin _ _ _ (by k_upd) (by simp [wds, kod]) (by allgen_close_more) (by top_name)
    · tb_start
      refine w_sorts fun t9 j9 h9 n9 f9 => ?_
      tb_start
      refine r_index (k := 17) (by k_upd) (by decide) (by decide) ?_
      tb_start
      exact fin _ _ _ (by k_upd) (by simp [wds, kod]) (by allgen_close_more) (by top_name)
  --@end
theorem w_read2 {j : Nat} {code : List Int} {p : Int} (hj : At s j (.lst (code.map D.int))) (hc0 : Vals32 code) (k : ∀ t, Fr [] s t → Q (decD (insAt code p)) t) : wp (g_law_read_2 [.box j, .int p]) s Q E u := by
  refine u_law_read_2 ?_
  unfold c_law_read_2
  by_cases p0 : 0 ≤ p
  rotate_left
  · have k := k s Fr.refl
    rw [insAt_out (by omega)] at k
    tb_start
    exact k
  by_cases p1 : p < code.length
  rotate_left
  · have k := k s Fr.refl
    rw [insAt_out (by omega)] at k
    tb_start
    exact k
  obtain ⟨p, rfl⟩ := Int.eq_ofNat_of_zero_le p0
  obtain ⟨w, hp, w0, w1⟩ : ∃ w, code[p]? = some w ∧ 0 ≤ w ∧ w < 4294967296 := by
    have hn : p < code.length := by omega
    exact ⟨_, List.getElem?_eq_getElem hn, hc0 _ (List.getElem_mem hn)⟩
  have hw : atI (code.map D.int) (p : Int) = some (.int w) := atI_nat (by rw [List.getElem?_map, hp]; rfl)
  tb_start
  refine sel_i (fun c18 => ?_) (fun c18 => ?_)
  · have k' : ∀ t, Fr [] s t → Q .non t := fun t f => by
      have k := k t f
      rw [insAt_nat hp] at k
      simpa [dec, c18, decD] using k
    tb_start
    exact k' _ (by top_name)
  have h18 : w / 134217728 = 0 ∨ w / 134217728 = 1 ∨ w / 134217728 = 2 ∨ w / 134217728 = 3 ∨ w / 134217728 = 4 ∨ w / 134217728 = 5 ∨ w / 134217728 = 6 ∨ w / 134217728 = 7 ∨ w / 134217728 = 8 ∨ w / 134217728 = 9 ∨ w / 134217728 = 10 ∨ w / 134217728 = 11 ∨ w / 134217728 = 12 ∨ w / 134217728 = 13 ∨ w / 134217728 = 14 ∨ w / 134217728 = 15 ∨ w / 134217728 = 16 ∨ w / 134217728 = 17 ∨ w / 134217728 = 18 := by omega
  tb_start
  refine w_sorts fun t9 j9 h9 n9 f9 => ?_
  tb_start
  rcases h18 with e | e | e | e | e | e | e | e | e | e | e | e | e | e | e | e | e | e | e
  --@cases read2
  · rw [e]
    refine atK_i (v := .str "stop") (by rfl) ?_
    tb_start
    have hk : InsOk "stop" [] := .stop
    have rw2 : ∀ {t0 : Sto} (Q' : D → Sto → Prop) (E' : XP), (∀ t b, At t b (.lst ((wds "stop" []).map D.int)) → Nw t0 b → Fr [] t0 t → Q' (.box b) t) → wp (g_law_words_2 [insD "stop" []]) t0 Q' E' := fun Q' E' kk => w_words2 hk kk
    unfold insD at rw2
    simp only [List.map_cons, List.map_nil] at rw2
    refine rw2 _ _ fun t b2 hb2 nb fb => ?_
    obtain ⟨r, hr⟩ := wds_cons hk
    rw [hr] at hb2
    simp only [List.map_cons] at hb2
    have k := k t (by top_name)
    rw [insAt_nat hp] at k
    simp only [dec, rdV, e, reduceIte, reduceCtorEq, Int.reduceLT, Int.reduceEq] at k
    tb_start
    refine sel_i (fun c => ?_) (fun c => ?_)
    · rw [if_pos c] at k
      tb_start
      try exact k
    · rw [if_neg c] at k
      tb_start
      try exact k
  · rw [e]
    refine atK_i (v := .str "put") (by rfl) ?_
    tb_start
    by_cases hl : (p : Int) + 1 = code.length
    · have k := k t9 (by top_name)
      rw [insAt_nat hp, List.getElem?_eq_none (by omega)] at k
      simp only [dec, e, reduceIte, reduceCtorEq, Int.reduceLT, Int.reduceEq] at k
      tb_start
      try exact k
    obtain ⟨v, hv, v0, v1⟩ := next_at hc0 (p := p) (by omega) (by omega)
    have hv2 : code[p + 1]? = some v := hv.1
    have hv3 := hv.2
    tb_start
    have hk : InsOk "put" [w / 16777216 % 8, v] := .put (by omega) (by omega) v0 v1
    have rw2 : ∀ {t0 : Sto} (Q' : D → Sto → Prop) (E' : XP), (∀ t b, At t b (.lst ((wds "put" [w / 16777216 % 8, v]).map D.int)) → Nw t0 b → Fr [] t0 t → Q' (.box b) t) → wp (g_law_words_2 [insD "put" [w / 16777216 % 8, v]]) t0 Q' E' := fun Q' E' kk => w_words2 hk kk
    unfold insD at rw2
    simp only [List.map_cons, List.map_nil] at rw2
    refine rw2 _ _ fun t b2 hb2 nb fb => ?_
    obtain ⟨r, hr⟩ := wds_cons hk
    rw [hr] at hb2
    simp only [List.map_cons] at hb2
    have k := k t (by top_name)
    rw [insAt_nat hp, hv2] at k
    simp only [dec, rdV, e, reduceIte, reduceCtorEq, Int.reduceLT, Int.reduceEq] at k
    tb_start
    refine sel_i (fun c => ?_) (fun c => ?_)
    · rw [if_pos c] at k
      tb_start
      try exact k
    · rw [if_neg c] at k
      tb_start
      try exact k
  · rw [e]
    refine atK_i (v := .str "add") (by rfl) ?_
    tb_start
    have hk : InsOk "add" [w / 16777216 % 8, w / 2097152 % 8, w / 262144 % 8] := .three (by simp) (by omega) (by omega) (by omega) (by omega) (by omega) (by omega)
    have rw2 : ∀ {t0 : Sto} (Q' : D → Sto → Prop) (E' : XP), (∀ t b, At t b (.lst ((wds "add" [w / 16777216 % 8, w / 2097152 % 8, w / 262144 % 8]).map D.int)) → Nw t0 b → Fr [] t0 t → Q' (.box b) t) → wp (g_law_words_2 [insD "add" [w / 16777216 % 8, w / 2097152 % 8, w / 262144 % 8]]) t0 Q' E' := fun Q' E' kk => w_words2 hk kk
    unfold insD at rw2
    simp only [List.map_cons, List.map_nil] at rw2
    refine rw2 _ _ fun t b2 hb2 nb fb => ?_
    obtain ⟨r, hr⟩ := wds_cons hk
    rw [hr] at hb2
    simp only [List.map_cons] at hb2
    have k := k t (by top_name)
    rw [insAt_nat hp] at k
    simp only [dec, rdV, e, reduceIte, reduceCtorEq, Int.reduceLT, Int.reduceEq] at k
    tb_start
    refine sel_i (fun c => ?_) (fun c => ?_)
    · rw [if_pos c] at k
      tb_start
      try exact k
    · rw [if_neg c] at k
      tb_start
      try exact k
  · rw [e]
    refine atK_i (v := .str "sub") (by rfl) ?_
    tb_start
    have hk : InsOk "sub" [w / 16777216 % 8, w / 2097152 % 8, w / 262144 % 8] := .three (by simp) (by omega) (by omega) (by omega) (by omega) (by omega) (by omega)
    have rw2 : ∀ {t0 : Sto} (Q' : D → Sto → Prop) (E' : XP), (∀ t b, At t b (.lst ((wds "sub" [w / 16777216 % 8, w / 2097152 % 8, w / 262144 % 8]).map D.int)) → Nw t0 b → Fr [] t0 t → Q' (.box b) t) → wp (g_law_words_2 [insD "sub" [w / 16777216 % 8, w / 2097152 % 8, w / 262144 % 8]]) t0 Q' E' := fun Q' E' kk => w_words2 hk kk
    unfold insD at rw2
    simp only [List.map_cons, List.map_nil] at rw2
    refine rw2 _ _ fun t b2 hb2 nb fb => ?_
    obtain ⟨r, hr⟩ := wds_cons hk
    rw [hr] at hb2
    simp only [List.map_cons] at hb2
    have k := k t (by top_name)
    rw [insAt_nat hp] at k
    simp only [dec, rdV, e, reduceIte, reduceCtorEq, Int.reduceLT, Int.reduceEq] at k
    tb_start
    refine sel_i (fun c => ?_) (fun c => ?_)
    · rw [if_pos c] at k
      tb_start
      try exact k
    · rw [if_neg c] at k
      tb_start
      try exact k
  · rw [e]
    refine atK_i (v := .str "and") (by rfl) ?_
    tb_start
    have hk : InsOk "and" [w / 16777216 % 8, w / 2097152 % 8, w / 262144 % 8] := .three (by simp) (by omega) (by omega) (by omega) (by omega) (by omega) (by omega)
    have rw2 : ∀ {t0 : Sto} (Q' : D → Sto → Prop) (E' : XP), (∀ t b, At t b (.lst ((wds "and" [w / 16777216 % 8, w / 2097152 % 8, w / 262144 % 8]).map D.int)) → Nw t0 b → Fr [] t0 t → Q' (.box b) t) → wp (g_law_words_2 [insD "and" [w / 16777216 % 8, w / 2097152 % 8, w / 262144 % 8]]) t0 Q' E' := fun Q' E' kk => w_words2 hk kk
    unfold insD at rw2
    simp only [List.map_cons, List.map_nil] at rw2
    refine rw2 _ _ fun t b2 hb2 nb fb => ?_
    obtain ⟨r, hr⟩ := wds_cons hk
    rw [hr] at hb2
    simp only [List.map_cons] at hb2
    have k := k t (by top_name)
    rw [insAt_nat hp] at k
    simp only [dec, rdV, e, reduceIte, reduceCtorEq, Int.reduceLT, Int.reduceEq] at k
    tb_start
    refine sel_i (fun c => ?_) (fun c => ?_)
    · rw [if_pos c] at k
      tb_start
      try exact k
    · rw [if_neg c] at k
      tb_start
      try exact k
  · rw [e]
    refine atK_i (v := .str "or") (by rfl) ?_
    tb_start
    have hk : InsOk "or" [w / 16777216 % 8, w / 2097152 % 8, w / 262144 % 8] := .three (by simp) (by omega) (by omega) (by omega) (by omega) (by omega) (by omega)
    have rw2 : ∀ {t0 : Sto} (Q' : D → Sto → Prop) (E' : XP), (∀ t b, At t b (.lst ((wds "or" [w / 16777216 % 8, w / 2097152 % 8, w / 262144 % 8]).map D.int)) → Nw t0 b → Fr [] t0 t → Q' (.box b) t) → wp (g_law_words_2 [insD "or" [w / 16777216 % 8, w / 2097152 % 8, w / 262144 % 8]]) t0 Q' E' := fun Q' E' kk => w_words2 hk kk
    unfold insD at rw2
    simp only [List.map_cons, List.map_nil] at rw2
    refine rw2 _ _ fun t b2 hb2 nb fb => ?_
    obtain ⟨r, hr⟩ := wds_cons hk
    rw [hr] at hb2
    simp only [List.map_cons] at hb2
    have k := k t (by top_name)
    rw [insAt_nat hp] at k
    simp only [dec, rdV, e, reduceIte, reduceCtorEq, Int.reduceLT, Int.reduceEq] at k
    tb_start
    refine sel_i (fun c => ?_) (fun c => ?_)
    · rw [if_pos c] at k
      tb_start
      try exact k
    · rw [if_neg c] at k
      tb_start
      try exact k
  · rw [e]
    refine atK_i (v := .str "xor") (by rfl) ?_
    tb_start
    have hk : InsOk "xor" [w / 16777216 % 8, w / 2097152 % 8, w / 262144 % 8] := .three (by simp) (by omega) (by omega) (by omega) (by omega) (by omega) (by omega)
    have rw2 : ∀ {t0 : Sto} (Q' : D → Sto → Prop) (E' : XP), (∀ t b, At t b (.lst ((wds "xor" [w / 16777216 % 8, w / 2097152 % 8, w / 262144 % 8]).map D.int)) → Nw t0 b → Fr [] t0 t → Q' (.box b) t) → wp (g_law_words_2 [insD "xor" [w / 16777216 % 8, w / 2097152 % 8, w / 262144 % 8]]) t0 Q' E' := fun Q' E' kk => w_words2 hk kk
    unfold insD at rw2
    simp only [List.map_cons, List.map_nil] at rw2
    refine rw2 _ _ fun t b2 hb2 nb fb => ?_
    obtain ⟨r, hr⟩ := wds_cons hk
    rw [hr] at hb2
    simp only [List.map_cons] at hb2
    have k := k t (by top_name)
    rw [insAt_nat hp] at k
    simp only [dec, rdV, e, reduceIte, reduceCtorEq, Int.reduceLT, Int.reduceEq] at k
    tb_start
    refine sel_i (fun c => ?_) (fun c => ?_)
    · rw [if_pos c] at k
      tb_start
      try exact k
    · rw [if_neg c] at k
      tb_start
      try exact k
  · rw [e]
    refine atK_i (v := .str "less") (by rfl) ?_
    tb_start
    have hk : InsOk "less" [w / 16777216 % 8, w / 2097152 % 8, w / 262144 % 8] := .three (by simp) (by omega) (by omega) (by omega) (by omega) (by omega) (by omega)
    have rw2 : ∀ {t0 : Sto} (Q' : D → Sto → Prop) (E' : XP), (∀ t b, At t b (.lst ((wds "less" [w / 16777216 % 8, w / 2097152 % 8, w / 262144 % 8]).map D.int)) → Nw t0 b → Fr [] t0 t → Q' (.box b) t) → wp (g_law_words_2 [insD "less" [w / 16777216 % 8, w / 2097152 % 8, w / 262144 % 8]]) t0 Q' E' := fun Q' E' kk => w_words2 hk kk
    unfold insD at rw2
    simp only [List.map_cons, List.map_nil] at rw2
    refine rw2 _ _ fun t b2 hb2 nb fb => ?_
    obtain ⟨r, hr⟩ := wds_cons hk
    rw [hr] at hb2
    simp only [List.map_cons] at hb2
    have k := k t (by top_name)
    rw [insAt_nat hp] at k
    simp only [dec, rdV, e, reduceIte, reduceCtorEq, Int.reduceLT, Int.reduceEq] at k
    tb_start
    refine sel_i (fun c => ?_) (fun c => ?_)
    · rw [if_pos c] at k
      tb_start
      try exact k
    · rw [if_neg c] at k
      tb_start
      try exact k
  · rw [e]
    refine atK_i (v := .str "left") (by rfl) ?_
    tb_start
    have hk : InsOk "left" [w / 16777216 % 8, w / 2097152 % 8, w / 262144 % 8] := .three (by simp) (by omega) (by omega) (by omega) (by omega) (by omega) (by omega)
    have rw2 : ∀ {t0 : Sto} (Q' : D → Sto → Prop) (E' : XP), (∀ t b, At t b (.lst ((wds "left" [w / 16777216 % 8, w / 2097152 % 8, w / 262144 % 8]).map D.int)) → Nw t0 b → Fr [] t0 t → Q' (.box b) t) → wp (g_law_words_2 [insD "left" [w / 16777216 % 8, w / 2097152 % 8, w / 262144 % 8]]) t0 Q' E' := fun Q' E' kk => w_words2 hk kk
    unfold insD at rw2
    simp only [List.map_cons, List.map_nil] at rw2
    refine rw2 _ _ fun t b2 hb2 nb fb => ?_
    obtain ⟨r, hr⟩ := wds_cons hk
    rw [hr] at hb2
    simp only [List.map_cons] at hb2
    have k := k t (by top_name)
    rw [insAt_nat hp] at k
    simp only [dec, rdV, e, reduceIte, reduceCtorEq, Int.reduceLT, Int.reduceEq] at k
    tb_start
    refine sel_i (fun c => ?_) (fun c => ?_)
    · rw [if_pos c] at k
      tb_start
      try exact k
    · rw [if_neg c] at k
      tb_start
      try exact k
  · rw [e]
    refine atK_i (v := .str "right") (by rfl) ?_
    tb_start
    have hk : InsOk "right" [w / 16777216 % 8, w / 2097152 % 8, w / 262144 % 8] := .three (by simp) (by omega) (by omega) (by omega) (by omega) (by omega) (by omega)
    have rw2 : ∀ {t0 : Sto} (Q' : D → Sto → Prop) (E' : XP), (∀ t b, At t b (.lst ((wds "right" [w / 16777216 % 8, w / 2097152 % 8, w / 262144 % 8]).map D.int)) → Nw t0 b → Fr [] t0 t → Q' (.box b) t) → wp (g_law_words_2 [insD "right" [w / 16777216 % 8, w / 2097152 % 8, w / 262144 % 8]]) t0 Q' E' := fun Q' E' kk => w_words2 hk kk
    unfold insD at rw2
    simp only [List.map_cons, List.map_nil] at rw2
    refine rw2 _ _ fun t b2 hb2 nb fb => ?_
    obtain ⟨r, hr⟩ := wds_cons hk
    rw [hr] at hb2
    simp only [List.map_cons] at hb2
    have k := k t (by top_name)
    rw [insAt_nat hp] at k
    simp only [dec, rdV, e, reduceIte, reduceCtorEq, Int.reduceLT, Int.reduceEq] at k
    tb_start
    refine sel_i (fun c => ?_) (fun c => ?_)
    · rw [if_pos c] at k
      tb_start
      try exact k
    · rw [if_neg c] at k
      tb_start
      try exact k
  · rw [e]
    refine atK_i (v := .str "more") (by rfl) ?_
    tb_start
    refine pick_sgn (n := w % 262144) ?_
    tb_start
    have hk : InsOk "more" [w / 16777216 % 8, w / 2097152 % 8, sgn (w % 262144)] := .more (by simp) (by omega) (by omega) (by omega) (by omega) (by unfold sgn; omega) (by unfold sgn; omega)
    have rw2 : ∀ {t0 : Sto} (Q' : D → Sto → Prop) (E' : XP), (∀ t b, At t b (.lst ((wds "more" [w / 16777216 % 8, w / 2097152 % 8, sgn (w % 262144)]).map D.int)) → Nw t0 b → Fr [] t0 t → Q' (.box b) t) → wp (g_law_words_2 [insD "more" [w / 16777216 % 8, w / 2097152 % 8, sgn (w % 262144)]]) t0 Q' E' := fun Q' E' kk => w_words2 hk kk
    unfold insD at rw2
    simp only [List.map_cons, List.map_nil] at rw2
    refine rw2 _ _ fun t b2 hb2 nb fb => ?_
    obtain ⟨r, hr⟩ := wds_cons hk
    rw [hr] at hb2
    simp only [List.map_cons] at hb2
    have k := k t (by top_name)
    rw [insAt_nat hp] at k
    simp only [dec, rdV, e, reduceIte, reduceCtorEq, Int.reduceLT, Int.reduceEq] at k
    tb_start
    refine sel_i (fun c => ?_) (fun c => ?_)
    · rw [if_pos c] at k
      tb_start
      try exact k
    · rw [if_neg c] at k
      tb_start
      try exact k
  · rw [e]
    refine atK_i (v := .str "load") (by rfl) ?_
    tb_start
    refine pick_sgn (n := w % 262144) ?_
    tb_start
    have hk : InsOk "load" [w / 16777216 % 8, w / 2097152 % 8, sgn (w % 262144)] := .more (by simp) (by omega) (by omega) (by omega) (by omega) (by unfold sgn; omega) (by unfold sgn; omega)
    have rw2 : ∀ {t0 : Sto} (Q' : D → Sto → Prop) (E' : XP), (∀ t b, At t b (.lst ((wds "load" [w / 16777216 % 8, w / 2097152 % 8, sgn (w % 262144)]).map D.int)) → Nw t0 b → Fr [] t0 t → Q' (.box b) t) → wp (g_law_words_2 [insD "load" [w / 16777216 % 8, w / 2097152 % 8, sgn (w % 262144)]]) t0 Q' E' := fun Q' E' kk => w_words2 hk kk
    unfold insD at rw2
    simp only [List.map_cons, List.map_nil] at rw2
    refine rw2 _ _ fun t b2 hb2 nb fb => ?_
    obtain ⟨r, hr⟩ := wds_cons hk
    rw [hr] at hb2
    simp only [List.map_cons] at hb2
    have k := k t (by top_name)
    rw [insAt_nat hp] at k
    simp only [dec, rdV, e, reduceIte, reduceCtorEq, Int.reduceLT, Int.reduceEq] at k
    tb_start
    refine sel_i (fun c => ?_) (fun c => ?_)
    · rw [if_pos c] at k
      tb_start
      try exact k
    · rw [if_neg c] at k
      tb_start
      try exact k
  · rw [e]
    refine atK_i (v := .str "store") (by rfl) ?_
    tb_start
    refine pick_sgn (n := w % 262144) ?_
    tb_start
    have hk : InsOk "store" [w / 16777216 % 8, w / 2097152 % 8, sgn (w % 262144)] := .more (by simp) (by omega) (by omega) (by omega) (by omega) (by unfold sgn; omega) (by unfold sgn; omega)
    have rw2 : ∀ {t0 : Sto} (Q' : D → Sto → Prop) (E' : XP), (∀ t b, At t b (.lst ((wds "store" [w / 16777216 % 8, w / 2097152 % 8, sgn (w % 262144)]).map D.int)) → Nw t0 b → Fr [] t0 t → Q' (.box b) t) → wp (g_law_words_2 [insD "store" [w / 16777216 % 8, w / 2097152 % 8, sgn (w % 262144)]]) t0 Q' E' := fun Q' E' kk => w_words2 hk kk
    unfold insD at rw2
    simp only [List.map_cons, List.map_nil] at rw2
    refine rw2 _ _ fun t b2 hb2 nb fb => ?_
    obtain ⟨r, hr⟩ := wds_cons hk
    rw [hr] at hb2
    simp only [List.map_cons] at hb2
    have k := k t (by top_name)
    rw [insAt_nat hp] at k
    simp only [dec, rdV, e, reduceIte, reduceCtorEq, Int.reduceLT, Int.reduceEq] at k
    tb_start
    refine sel_i (fun c => ?_) (fun c => ?_)
    · rw [if_pos c] at k
      tb_start
      try exact k
    · rw [if_neg c] at k
      tb_start
      try exact k
  · rw [e]
    refine atK_i (v := .str "jump") (by rfl) ?_
    tb_start
    have hk : InsOk "jump" [w % 262144] := .place (by simp) (by omega) (by omega)
    have rw2 : ∀ {t0 : Sto} (Q' : D → Sto → Prop) (E' : XP), (∀ t b, At t b (.lst ((wds "jump" [w % 262144]).map D.int)) → Nw t0 b → Fr [] t0 t → Q' (.box b) t) → wp (g_law_words_2 [insD "jump" [w % 262144]]) t0 Q' E' := fun Q' E' kk => w_words2 hk kk
    unfold insD at rw2
    simp only [List.map_cons, List.map_nil] at rw2
    refine rw2 _ _ fun t b2 hb2 nb fb => ?_
    obtain ⟨r, hr⟩ := wds_cons hk
    rw [hr] at hb2
    simp only [List.map_cons] at hb2
    have k := k t (by top_name)
    rw [insAt_nat hp] at k
    simp only [dec, rdV, e, reduceIte, reduceCtorEq, Int.reduceLT, Int.reduceEq] at k
    tb_start
    refine sel_i (fun c => ?_) (fun c => ?_)
    · rw [if_pos c] at k
      tb_start
      try exact k
    · rw [if_neg c] at k
      tb_start
      try exact k
  · rw [e]
    refine atK_i (v := .str "jumpif") (by rfl) ?_
    tb_start
    have hk : InsOk "jumpif" [w / 16777216 % 8, w % 262144] := .jumpif (by omega) (by omega) (by omega) (by omega)
    have rw2 : ∀ {t0 : Sto} (Q' : D → Sto → Prop) (E' : XP), (∀ t b, At t b (.lst ((wds "jumpif" [w / 16777216 % 8, w % 262144]).map D.int)) → Nw t0 b → Fr [] t0 t → Q' (.box b) t) → wp (g_law_words_2 [insD "jumpif" [w / 16777216 % 8, w % 262144]]) t0 Q' E' := fun Q' E' kk => w_words2 hk kk
    unfold insD at rw2
    simp only [List.map_cons, List.map_nil] at rw2
    refine rw2 _ _ fun t b2 hb2 nb fb => ?_
    obtain ⟨r, hr⟩ := wds_cons hk
    rw [hr] at hb2
    simp only [List.map_cons] at hb2
    have k := k t (by top_name)
    rw [insAt_nat hp] at k
    simp only [dec, rdV, e, reduceIte, reduceCtorEq, Int.reduceLT, Int.reduceEq] at k
    tb_start
    refine sel_i (fun c => ?_) (fun c => ?_)
    · rw [if_pos c] at k
      tb_start
      try exact k
    · rw [if_neg c] at k
      tb_start
      try exact k
  · rw [e]
    refine atK_i (v := .str "through") (by rfl) ?_
    tb_start
    have hk : InsOk "through" [w / 2097152 % 8] := .through (by omega) (by omega)
    have rw2 : ∀ {t0 : Sto} (Q' : D → Sto → Prop) (E' : XP), (∀ t b, At t b (.lst ((wds "through" [w / 2097152 % 8]).map D.int)) → Nw t0 b → Fr [] t0 t → Q' (.box b) t) → wp (g_law_words_2 [insD "through" [w / 2097152 % 8]]) t0 Q' E' := fun Q' E' kk => w_words2 hk kk
    unfold insD at rw2
    simp only [List.map_cons, List.map_nil] at rw2
    refine rw2 _ _ fun t b2 hb2 nb fb => ?_
    obtain ⟨r, hr⟩ := wds_cons hk
    rw [hr] at hb2
    simp only [List.map_cons] at hb2
    have k := k t (by top_name)
    rw [insAt_nat hp] at k
    simp only [dec, rdV, e, reduceIte, reduceCtorEq, Int.reduceLT, Int.reduceEq] at k
    tb_start
    refine sel_i (fun c => ?_) (fun c => ?_)
    · rw [if_pos c] at k
      tb_start
      try exact k
    · rw [if_neg c] at k
      tb_start
      try exact k
  · rw [e]
    refine atK_i (v := .str "fit") (by rfl) ?_
    tb_start
    have hk : InsOk "fit" [w / 16777216 % 8, w / 2097152 % 8] := .two (by simp) (by omega) (by omega) (by omega) (by omega)
    have rw2 : ∀ {t0 : Sto} (Q' : D → Sto → Prop) (E' : XP), (∀ t b, At t b (.lst ((wds "fit" [w / 16777216 % 8, w / 2097152 % 8]).map D.int)) → Nw t0 b → Fr [] t0 t → Q' (.box b) t) → wp (g_law_words_2 [insD "fit" [w / 16777216 % 8, w / 2097152 % 8]]) t0 Q' E' := fun Q' E' kk => w_words2 hk kk
    unfold insD at rw2
    simp only [List.map_cons, List.map_nil] at rw2
    refine rw2 _ _ fun t b2 hb2 nb fb => ?_
    obtain ⟨r, hr⟩ := wds_cons hk
    rw [hr] at hb2
    simp only [List.map_cons] at hb2
    have k := k t (by top_name)
    rw [insAt_nat hp] at k
    simp only [dec, rdV, e, reduceIte, reduceCtorEq, Int.reduceLT, Int.reduceEq] at k
    tb_start
    refine sel_i (fun c => ?_) (fun c => ?_)
    · rw [if_pos c] at k
      tb_start
      try exact k
    · rw [if_neg c] at k
      tb_start
      try exact k
  · rw [e]
    refine atK_i (v := .str "aim") (by rfl) ?_
    tb_start
    have hk : InsOk "aim" [w / 16777216 % 8, w / 2097152 % 8] := .two (by simp) (by omega) (by omega) (by omega) (by omega)
    have rw2 : ∀ {t0 : Sto} (Q' : D → Sto → Prop) (E' : XP), (∀ t b, At t b (.lst ((wds "aim" [w / 16777216 % 8, w / 2097152 % 8]).map D.int)) → Nw t0 b → Fr [] t0 t → Q' (.box b) t) → wp (g_law_words_2 [insD "aim" [w / 16777216 % 8, w / 2097152 % 8]]) t0 Q' E' := fun Q' E' kk => w_words2 hk kk
    unfold insD at rw2
    simp only [List.map_cons, List.map_nil] at rw2
    refine rw2 _ _ fun t b2 hb2 nb fb => ?_
    obtain ⟨r, hr⟩ := wds_cons hk
    rw [hr] at hb2
    simp only [List.map_cons] at hb2
    have k := k t (by top_name)
    rw [insAt_nat hp] at k
    simp only [dec, rdV, e, reduceIte, reduceCtorEq, Int.reduceLT, Int.reduceEq] at k
    tb_start
    refine sel_i (fun c => ?_) (fun c => ?_)
    · rw [if_pos c] at k
      tb_start
      try exact k
    · rw [if_neg c] at k
      tb_start
      try exact k
  · rw [e]
    refine atK_i (v := .str "gate") (by rfl) ?_
    tb_start
    have hk : InsOk "gate" [w % 262144] := .place (by simp) (by omega) (by omega)
    have rw2 : ∀ {t0 : Sto} (Q' : D → Sto → Prop) (E' : XP), (∀ t b, At t b (.lst ((wds "gate" [w % 262144]).map D.int)) → Nw t0 b → Fr [] t0 t → Q' (.box b) t) → wp (g_law_words_2 [insD "gate" [w % 262144]]) t0 Q' E' := fun Q' E' kk => w_words2 hk kk
    unfold insD at rw2
    simp only [List.map_cons, List.map_nil] at rw2
    refine rw2 _ _ fun t b2 hb2 nb fb => ?_
    obtain ⟨r, hr⟩ := wds_cons hk
    rw [hr] at hb2
    simp only [List.map_cons] at hb2
    have k := k t (by top_name)
    rw [insAt_nat hp] at k
    simp only [dec, rdV, e, reduceIte, reduceCtorEq, Int.reduceLT, Int.reduceEq] at k
    tb_start
    refine sel_i (fun c => ?_) (fun c => ?_)
    · rw [if_pos c] at k
      tb_start
      try exact k
    · rw [if_neg c] at k
      tb_start
      try exact k
  --@end
end
end P

set_option Elab.async false
set_option linter.all false
set_option maxRecDepth 100000
set_option maxHeartbeats 4000000
/-! bit by bit, and moved step by step (no program in sight) -/
namespace P
open PySem L2 G
theorem bit_step {b i : Int} (i0 : 0 ≤ i) (i1 : i < 32) : (b % p2 (32 - i) * p2 i) * 2 % 4294967296 = b % p2 (32 - (i + 1)) * p2 (i + 1) ∧ (b % p2 (32 - i) * p2 i) / 2147483648 % 2 = b / p2 (32 - (i + 1)) % 2 ∧ b / p2 (32 - i) = b / p2 (32 - (i + 1)) / 2 := by
  have hP := p2_pos (z := 32 - (i + 1))
  have hT := p2_pos (z := i)
  have e1 : p2 (32 - i) = 2 * p2 (32 - (i + 1)) := by
    have : (32 - i : Int) = (32 - (i + 1)) + 1 := by omega
    rw [this, p2_succ (by omega)]
  have e2 : p2 (i + 1) = 2 * p2 i := p2_succ i0
  have e3 : p2 (32 - (i + 1)) * p2 i = 2147483648 := by
    rw [← p2_add (by omega) i0]
    have : (32 - (i + 1) + i : Int) = 31 := by omega
    rw [this]
    rfl
  rw [e1, e2]
  generalize p2 (32 - (i + 1)) = P at *
  generalize p2 i = T at *
  have hr : b % (2 * P) % P = b % P := Int.emod_emod_of_dvd _ ⟨2, by rw [Int.mul_comm]⟩
  have hq : b / P = 2 * (b / (2 * P)) + b % (2 * P) / P := by
    have d := Int.emod_add_mul_ediv b (2 * P)
    conv => lhs; rw [← d]
    have : b % (2 * P) + 2 * P * (b / (2 * P)) = b % (2 * P) + P * (2 * (b / (2 * P))) := by congr 1; rw [Int.mul_comm 2 P, Int.mul_assoc]
    rw [this, Int.add_mul_ediv_left _ _ (by omega)]
    omega
  have r0 := Int.emod_nonneg b (show 2 * P ≠ 0 by omega)
  have r1 := Int.emod_lt_of_pos b (show 0 < 2 * P by omega)
  refine ⟨?_, ?_, ?_⟩
  · have : b % (2 * P) * T * 2 = (2 * T) * (b % (2 * P)) := by rw [Int.mul_assoc, Int.mul_comm T 2, Int.mul_comm (b % (2 * P))]
    rw [this]
    have : (4294967296 : Int) = (2 * T) * P := by rw [Int.mul_assoc, Int.mul_comm T P, e3]; rfl
    rw [this, Int.mul_emod_mul_of_pos _ _ (by omega), hr, Int.mul_comm (b % P)]
  · rw [← e3, Int.mul_ediv_mul_of_pos_left _ _ hT, hq]
    have a0 : 0 ≤ b % (2 * P) / P := Int.ediv_nonneg r0 (by omega)
    have a1 : b % (2 * P) / P < 2 := Int.ediv_lt_of_lt_mul hP (by omega)
    omega
  · rw [Int.ediv_ediv_of_nonneg (by omega), Int.mul_comm 2 P]
def bit3 (x : String) (n : Int) : Int := if x = "and" then (if n = 2 then 1 else 0) else if x = "or" then (if 0 < n then 1 else 0) else (if n = 1 then 1 else 0)
theorem nat_bits (a b : Nat) : (a &&& b) = 2 * (a / 2 &&& b / 2) + (a % 2 &&& b % 2) ∧ (a ||| b) = 2 * (a / 2 ||| b / 2) + (a % 2 ||| b % 2) ∧ (a ^^^ b) = 2 * (a / 2 ^^^ b / 2) + (a % 2 ^^^ b % 2) := by
  have d1 : (a &&& b) / 2 = a / 2 &&& b / 2 := Nat.and_div_two
  have d2 : (a ||| b) / 2 = a / 2 ||| b / 2 := Nat.or_div_two
  have d3 : (a ^^^ b) / 2 = a / 2 ^^^ b / 2 := Nat.xor_div_two
  have m1 : (a &&& b) % 2 = a % 2 &&& b % 2 := Nat.and_mod_two_pow (n := 1)
  have m2 : (a ||| b) % 2 = a % 2 ||| b % 2 := Nat.or_mod_two_pow (n := 1)
  have m3 : (a ^^^ b) % 2 = a % 2 ^^^ b % 2 := Nat.xor_mod_two_pow (n := 1)
  rw [← d1, ← d2, ← d3, ← m1, ← m2, ← m3]
  omega
theorem bitI_step {x : String} {v w : Int} (hv : 0 ≤ v) (hw : 0 ≤ w) : bitI x v w = 2 * bitI x (v / 2) (w / 2) + bit3 x (v % 2 + w % 2) := by
  obtain ⟨n1, n2, n3⟩ := nat_bits v.toNat w.toNat
  have e1 : (v / 2).toNat = v.toNat / 2 := by omega
  have e2 : (w / 2).toNat = w.toNat / 2 := by omega
  have small : ∀ p q : Nat, p < 2 → q < 2 → (p &&& q) = (if p + q = 2 then 1 else 0) ∧ (p ||| q) = (if 0 < p + q then 1 else 0) ∧ (p ^^^ q) = (if p + q = 1 then 1 else 0) := by
    intro p q hp hq
    rcases (by omega : p = 0 ∨ p = 1) with rfl | rfl <;> rcases (by omega : q = 0 ∨ q = 1) with rfl | rfl <;> decide
  obtain ⟨s1, s2, s3⟩ := small (v.toNat % 2) (w.toNat % 2) (by omega) (by omega)
  unfold bitI bit3 andI orI xorI
  rw [e1, e2]
  split
  · rw [n1, s1]
    split <;> split <;> omega
  · split
    · rw [n2, s2]
      split <;> split <;> omega
    · rw [n3, s3]
      split <;> split <;> omega
end P

set_option Elab.async false
set_option linter.all false
set_option maxRecDepth 100000
set_option maxHeartbeats 4000000
/-! the machine laws' own machine -/
namespace P
open PySem L2 G
local macro_rules | `(tactic| top_raise0) => `(tactic| first | omega | (unfold mulOk; omega) | ((repeat' (apply And.intro)) <;> first | omega | with_reducible assumption | rfl | (unfold mulOk; omega)))
local macro_rules | `(tactic| k_upd) => `(tactic| first | with_reducible assumption | ((with_reducible refine At.fr0 (by with_reducible assumption) ?_); k_upd) | ((with_reducible refine At.fr1 (by with_reducible assumption) ?_ ?_); (focus k_upd); top_raise) | ((with_reducible refine At.fr2 (by with_reducible assumption) ?_ ?_ ?_); (focus k_upd); (focus top_raise); top_raise))
local macro_rules | `(tactic| k_updF) => `(tactic| first | with_reducible assumption | with_reducible exact At.lt (by with_reducible assumption) | ((with_reducible refine Fr.lt (by with_reducible assumption) ?_); k_updF))
local macro_rules | `(tactic| top_raise) => `(tactic| first | with_reducible assumption | ((with_reducible refine Nw.ne (by with_reducible assumption) ?_); k_updF) | ((with_reducible refine Nw.ne' (by with_reducible assumption) ?_); k_updF) | omega)
local macro_rules | `(tactic| kbo_bools) => `(tactic| simp -dsimp)
local macro_rules | `(tactic| kat_tups) => `(tactic| first | rfl | with_reducible assumption | exact atI_nat rfl)
local macro_rules | `(tactic| tb_rel) => `(tactic| first
   | ((with_reducible refine gd_i ?_ ?_); (focus first | exact ⟨_, lAt_at (by k_upd)⟩ | top_raise0))
   | ((with_reducible apply atK_i); (focus kat_tups))
   | ((with_reducible apply r_ix); (focus k_upd))
   | ((with_reducible apply r_len); (focus k_upd))
   | ((with_reducible apply r_inL); (focus k_upd); (focus (simp; done)))
   | ((with_reducible apply r_chk); (focus k_upd))
   | ((with_reducible refine r_new ?_); intro _ _ _ _ _)
   | ((with_reducible apply r_app); (focus k_upd); (focus top_raise0); intro _ hA _; (try simp only [List.nil_append, List.cons_append] at hA))
   | ((with_reducible apply r_putT); (focus k_upd); (focus top_caught); (focus top_caught); intro _ hA _; (try simp only [Int.reduceToNat, List.set_cons_zero, List.set_cons_succ] at hA))
   | (with_reducible refine ws_for ?_)
   | (with_reducible refine wfor_t1 ?_)
   | (with_reducible refine wfor_t0 ?_)
   | ((with_reducible refine r_eqO ?_ ?_ ?_); (focus (simp [okD, okL]; done)); (focus (simp [dpD, dpL]; done)))
   | ((with_reducible refine r_neO ?_ ?_ ?_); (focus (simp [okD, okL]; done)); (focus (simp [dpD, dpL]; done)))
   | ((with_reducible refine sel_t ?_ ?_); (focus top_raise0))
   | ((with_reducible refine sel_f ?_ ?_); (focus top_raise0)))
local macro_rules | `(tactic| tb_start) => `(tactic| repeat (first | kbo_bools | tb_rel))
local macro_rules | `(tactic| top_caught) => `(tactic| first | omega | (simp; done) | (simp; omega) | (simp; constructor <;> omega))
local macro_rules | `(tactic| top_name) => `(tactic| first | with_reducible assumption | exact Fr.refl | ((with_reducible refine Fr.trans ?_ (by with_reducible assumption)); top_name) | ((with_reducible refine Fr.trans ?_ (Fr.up (by with_reducible assumption))); top_name) | ((with_reducible refine Fr.new ?_ ?_ (by with_reducible assumption)); (focus top_name); allgen_close_more) | ((with_reducible refine Fr.new2 ?_ ?_ (by with_reducible assumption) (by simp)); (focus top_name); allgen_close_more))
local macro_rules | `(tactic| allgen_close_more) => `(tactic| first | with_reducible assumption | ((with_reducible refine Fr.nw (by with_reducible assumption) ?_); allgen_close_more))
local macro_rules | `(tactic| allgen_close2_more) => `(tactic| simp only [fill_some, fill_none, fill_nil, Nat.reduceAdd])
local macro_rules | `(tactic| tb_rel) => `(tactic| first
   | ((with_reducible apply r_fld); (focus k_upd))
   | ((with_reducible apply r_chkO); (focus k_upd); (focus (simp; done)))
   | ((with_reducible apply r_chkD); (focus k_upd))
   | ((with_reducible apply r_dict); (focus k_upd))
   | ((with_reducible apply r_tupleB); (focus k_upd))
   | ((with_reducible apply r_listB); (focus k_upd))
   | ((with_reducible apply r_ix2L); (focus k_upd))
   | ((with_reducible apply onIt_i); (focus k_upd)))
section
variable {s : Sto} {Q : D → Sto → Prop} {E : XP} {u : Lk2 Q E}
theorem w_lbits {x : String} {v w : Int} (hv : V32 v) (hw : V32 w) (hx : x = "and" ∨ x = "or" ∨ x = "xor") (k : ∀ t, Fr [] s t → Q (.int (bitI x v w)) t) : wp (g_law_bits [.str x, .int v, .int w]) s Q E u := by
  refine u_law_bits ?_
  unfold c_law_bits
  obtain ⟨v0, v1⟩ := hv
  obtain ⟨w0, w1⟩ := hw
  have z0 : bitI x (v / p2 32) (w / p2 32) = 0 := by
    have a : v / p2 32 = 0 := Int.ediv_eq_zero_of_lt v0 v1
    have b : w / p2 32 = 0 := Int.ediv_eq_zero_of_lt w0 w1
    rw [a, b]
    rcases hx with rfl | rfl | rfl <;> rfl
  tb_start
  refine wfor_r (fun i (_ : Unit) => [some (.str x), some (.int (v % p2 (32 - (i : Int)) * p2 i)), some (.int (w % p2 (32 - (i : Int)) * p2 i)), some (.int (bitI x (v / p2 (32 - (i : Int))) (w / p2 (32 - (i : Int))))), none, none, none, none]) (fun _ _ t => Fr [] s t) () ?_ Fr.refl ?_ ?_
  · refine ⟨rfl, ?_, ?_, ?_, trivial⟩
    · have : v % p2 32 * p2 0 = v := by show v % 4294967296 * 1 = v; omega
      exact congrArg (fun z => some (D.int z)) this.symm
    · have : w % p2 32 * p2 0 = w := by show w % 4294967296 * 1 = w; omega
      exact congrArg (fun z => some (D.int z)) this.symm
    · exact congrArg (fun z => some (D.int z)) z0.symm
  · rintro i ⟨⟩ f t hi ft
    obtain ⟨b1, b2, b3⟩ := bit_step (b := v) (i := i) (by omega) (by omega)
    obtain ⟨c1, c2, c3⟩ := bit_step (b := w) (i := i) (by omega) (by omega)
    have st := bitI_step (x := x) (v := v / p2 (32 - ((i : Int) + 1))) (w := w / p2 (32 - ((i : Int) + 1))) (Int.ediv_nonneg v0 (Int.le_of_lt p2_pos)) (Int.ediv_nonneg w0 (Int.le_of_lt p2_pos))
    rw [← b3, ← c3, ← b2, ← c2] at st
    have ci : ((i + 1 : Nat) : Int) = (i : Int) + 1 := by omega
    have fin : ∀ {t' : Sto} {n : Int} {e5 e6 e7 e8 : Option D}, n = 2 * bitI x (v / p2 (32 - (i : Int))) (w / p2 (32 - (i : Int))) + bit3 x (v % p2 (32 - (i : Int)) * p2 i / 2147483648 % 2 + w % p2 (32 - (i : Int)) * p2 i / 2147483648 % 2) → Fr [] s t' →
        dn (∃ a' : Unit, Sl [some (.str x), some (.int (v % p2 (32 - (i : Int)) * p2 i * 2 % 4294967296)), some (.int (w % p2 (32 - (i : Int)) * p2 i * 2 % 4294967296)), some (.int n), e5, e6, e7, e8] [some (.str x), some (.int (v % p2 (32 - ((i + 1 : Nat) : Int)) * p2 ((i + 1 : Nat) : Int))), some (.int (w % p2 (32 - ((i + 1 : Nat) : Int)) * p2 ((i + 1 : Nat) : Int))), some (.int (bitI x (v / p2 (32 - ((i + 1 : Nat) : Int))) (w / p2 (32 - ((i + 1 : Nat) : Int))))), none, none, none, none] ∧ Fr [] s t') := fun {t' n e5 e6 e7 e8} hn f => by
      rw [ci, hn, ← st, b1, c1]
      exact dn_i ⟨(), ⟨rfl, rfl, rfl, rfl, trivial⟩, f⟩
    clear st
    tb_start
    rcases hx with rfl | rfl | rfl
    · refine r_index (k := 0) (by k_upd) (by decide) (by decide) ?_
      tb_start
      exact fin (by simp [bit3]) (by top_name)
    · refine r_index (k := 1) (by k_upd) (by decide) (by decide) ?_
      tb_start
      exact fin (by simp [bit3]) (by top_name)
    · refine r_index (k := 2) (by k_upd) (by decide) (by decide) ?_
      tb_start
      exact fin (by simp [bit3]) (by top_name)
  · rintro ⟨⟩ f t ft
    tb_start
    exact k t ft
theorem half_step {v i : Int} (i0 : 0 ≤ i) : v / p2 i / 2 = v / p2 (i + 1) := by
  rw [Int.ediv_ediv_of_nonneg (Int.le_of_lt p2_pos), p2_succ i0, Int.mul_comm]
theorem dbl_step {v i : Int} (i0 : 0 ≤ i) : v * p2 i % 4294967296 * 2 % 4294967296 = v * p2 (i + 1) % 4294967296 := by
  rw [Int.mul_emod, Int.emod_emod, ← Int.mul_emod, p2_succ i0, Int.mul_comm 2, Int.mul_assoc]
theorem w_lof_two {x : String} {v w : Int} (hv : V32 v) (hw : V32 w) (hx : isW x) (k : ∀ t, Fr [] s t → Q (.int (valI x v w)) t) : wp (g_law_of_two [.str x, .int v, .int w]) s Q E u := by
  refine u_law_of_two ?_
  unfold c_law_of_two
  have bits : ∀ y, y = x → (y = "and" ∨ y = "or" ∨ y = "xor") → wp (g_law_bits [.str y, .int v, .int w]) s Q E := fun y e hy => by
    subst e
    refine w_lbits hv hw hy fun t f => ?_
    have q := k t f
    have n1 : y ≠ "add" := by rcases hy with rfl | rfl | rfl <;> decide
    have n2 : y ≠ "sub" := by rcases hy with rfl | rfl | rfl <;> decide
    simpa only [valI, if_neg n1, if_neg n2, if_pos hy] using q
  obtain ⟨v0, v1⟩ := hv
  obtain ⟨w0, w1⟩ := hw
  rcases hx with rfl | rfl | (rfl | rfl | rfl) | (rfl | rfl | rfl)
  · tb_start
    simpa [valI] using k s Fr.refl
  · tb_start
    simpa [valI] using k s Fr.refl
  · tb_start
    exact bits _ rfl (by simp)
  · tb_start
    exact bits _ rfl (by simp)
  · tb_start
    exact bits _ rfl (by simp)
  · tb_start
    simpa [valI, shI] using k s Fr.refl
  · tb_start
    refine wfor_r (fun i (_ : Unit) => [some (.str "left"), some (.int (v * p2 i % 4294967296)), some (.int w), none]) (fun _ _ t => Fr [] s t) () ?_ Fr.refl ?_ ?_
    · refine ⟨rfl, ?_, rfl, trivial⟩
      have : v * p2 0 % 4294967296 = v := by show v * 1 % _ = v; omega
      exact congrArg (fun z => some (D.int z)) this.symm
    · rintro i ⟨⟩ f t hi ft
      have st := dbl_step (v := v) (i := i) (by omega)
      tb_start
      refine dn_i ⟨(), ⟨rfl, congrArg (fun z => some (D.int z)) st, rfl, trivial⟩, ft⟩
    · rintro ⟨⟩ f t ft
      have e : max (w % 32) 0 = w % 32 := by omega
      tb_start
      simpa [valI, shI, e] using k t ft
  · tb_start
    refine wfor_r (fun i (_ : Unit) => [some (.str "right"), some (.int (v / p2 i)), some (.int w), none]) (fun _ _ t => Fr [] s t) () ?_ Fr.refl ?_ ?_
    · refine ⟨rfl, ?_, rfl, trivial⟩
      have : v / p2 0 = v := by show v / 1 = v; omega
      exact congrArg (fun z => some (D.int z)) this.symm
    · rintro i ⟨⟩ f t hi ft
      have st := half_step (v := v) (i := i) (by omega)
      tb_start
      refine dn_i ⟨(), ⟨rfl, congrArg (fun z => some (D.int z)) st, rfl, trivial⟩, ft⟩
    · rintro ⟨⟩ f t ft
      have e : max (w % 32) 0 = w % 32 := by omega
      tb_start
      simpa [valI, shI, e] using k t ft
/-- what an instruction makes, where it makes something -/
def mkI (P : Plan) (x : String) (vs : List Int) (S : St) : Option Int := match vs with
  | [p, q] => if x = "put" then some q else if x = "jumpif" then none else some (if x = "fit" then fitI P.k P.b (geti S.bx q) else aimI P.m P.s (geti S.bx q))
  | [_, q, r] => if x = "load" ∨ x = "store" then none else some (if x = "more" then (geti S.bx q + r) % 4294967296 else valI x (geti S.bx q) (geti S.bx r))
  | _ => none
def optI : Option Int → D
  | none => .non
  | some v => .int v
theorem w_lmakes {P : Plan} (p : P.ok) {x : String} {vs : List Int} {S : St} {jb : Nat} (ok : StOk S) (hb : At s jb (.lst (S.bx.map D.int))) (h : InsOk x vs) (k : ∀ t, Fr [] s t → Q (optI (mkI P x vs S)) t) : wp (g_law_makes_2 [P.d, insD x vs, .box jb]) s Q E u := by
  refine u_law_makes_2 ?_
  unfold c_law_makes_2
  have hlen := ok.bl
  unfold insD
  cases h with
  | stop =>
    simp only [List.map_cons, List.map_nil]
    tb_start
    simpa [mkI, optI] using k s Fr.refl
  | put a0 a1 v0 v1 =>
    simp only [List.map_cons, List.map_nil]
    tb_start
    simpa [mkI, optI] using k s Fr.refl
  | @three x a b c hx a0 a1 b0 b1 c0 c1 =>
    obtain ⟨e1, v1⟩ := ok.at b0 b1
    obtain ⟨e2, v2⟩ := ok.at c0 c1
    have hw : isW x := by rcases hx with rfl | rfl | rfl | rfl | rfl | rfl | rfl | rfl <;> simp [isW, isSh]
    have n1 : ¬ (x = "load" ∨ x = "store") := by rcases hx with rfl | rfl | rfl | rfl | rfl | rfl | rfl | rfl <;> simp
    have n2 : x ≠ "more" := by rcases hx with rfl | rfl | rfl | rfl | rfl | rfl | rfl | rfl <;> simp
    simp only [mkI, if_neg n1, if_neg n2, optI] at k
    have main : ∀ y : String, y = x → wp (g_law_of_two [.str y, .int (geti S.bx b), .int (geti S.bx c)]) s Q E := fun y e => by
      subst e
      exact w_lof_two v1 v2 hw k
    simp only [List.map_cons, List.map_nil]
    rcases hx with rfl | rfl | rfl | rfl | rfl | rfl | rfl | rfl
    all_goals
      tb_start
      exact main _ rfl
  | @more x a b n hx a0 a1 b0 b1 n0 n1 =>
    obtain ⟨e1, v1⟩ := ok.at b0 b1
    simp only [List.map_cons, List.map_nil]
    rcases hx with rfl | rfl | rfl
    all_goals
      tb_start
      simpa [mkI, optI] using k s Fr.refl
  | place hx n0 n1 =>
    simp only [List.map_cons, List.map_nil]
    rcases hx with rfl | rfl
    all_goals
      tb_start
      simpa [mkI, optI] using k s Fr.refl
  | jumpif a0 a1 n0 n1 =>
    simp only [List.map_cons, List.map_nil]
    tb_start
    simpa [mkI, optI] using k s Fr.refl
  | through b0 b1 =>
    simp only [List.map_cons, List.map_nil]
    tb_start
    simpa [mkI, optI] using k s Fr.refl
  | @two x a b hx a0 a1 b0 b1 =>
    obtain ⟨e1, v1⟩ := ok.at b0 b1
    obtain ⟨pk0, k1, pb0, bm, pb1, m0, s0, ms, g0, g1⟩ := p
    have hk := p2_pos (z := P.k)
    have hk2 : p2 P.k ≤ 1048576 := p2_le (b := 20) (by omega)
    have hm := p2_pos (z := P.m)
    have hm2 : p2 P.m ≤ 128 := p2_le (b := 7) (by omega)
    have hs := p2_pos (z := P.s)
    have hs2 : p2 P.s ≤ 128 := p2_le (b := 7) (by omega)
    have d1 := mod_lo (x := geti S.bx b) hm
    have d2 := mod_hi (x := geti S.bx b) hm
    simp only [List.map_cons, List.map_nil]
    rcases hx with rfl | rfl
    · tb_start
      simpa [mkI, optI, fitI] using k s Fr.refl
    · tb_start
      simpa [mkI, optI, aimI, Int.mul_assoc] using k s Fr.refl
theorem w_lgoes {x : String} {vs : List Int} {S : St} {jb : Nat} (ok : StOk S) (hb : At s jb (.lst (S.bx.map D.int))) (hi : InsOk x vs) (k : Q (.int (nxt x vs S)) s) : wp (g_law_goes_1 [insD x vs, .int S.place, .box jb]) s Q E u := by
  refine u_law_goes_1 ?_
  unfold c_law_goes_1
  unfold insD
  cases hi with
  | stop =>
    simp only [List.map_cons, List.map_nil]
    tb_start
    simpa [nxt] using k
  | put a0 a1 v0 v1 =>
    simp only [List.map_cons, List.map_nil]
    tb_start
    simpa [nxt, Int.add_assoc] using k
  | three hx a0 a1 b0 b1 c0 c1 =>
    simp only [List.map_cons, List.map_nil]
    rcases hx with rfl | rfl | rfl | rfl | rfl | rfl | rfl | rfl
    all_goals
      tb_start
      simpa [nxt] using k
  | more hx a0 a1 b0 b1 n0 n1 =>
    simp only [List.map_cons, List.map_nil]
    rcases hx with rfl | rfl | rfl
    all_goals
      tb_start
      simpa [nxt] using k
  | place hx n0 n1 =>
    simp only [List.map_cons, List.map_nil]
    rcases hx with rfl | rfl
    all_goals
      tb_start
      simpa [nxt] using k
  | @jumpif a n a0 a1 n0 n1 =>
    obtain ⟨e1, _⟩ := ok.at a0 a1
    simp only [List.map_cons, List.map_nil]
    tb_start
    refine sel_i (fun c => ?_) (fun c => ?_)
    · tb_start
      simpa [nxt, c] using k
    · tb_start
      simpa [nxt, c] using k
  | @through b b0 b1 =>
    obtain ⟨e1, _⟩ := ok.at b0 b1
    simp only [List.map_cons, List.map_nil]
    tb_start
    simpa [nxt] using k
  | two hx a0 a1 b0 b1 =>
    simp only [List.map_cons, List.map_nil]
    rcases hx with rfl | rfl
    all_goals
      tb_start
      simpa [nxt] using k
end
end P

set_option Elab.async false
set_option linter.all false
set_option maxRecDepth 100000
set_option maxHeartbeats 4000000
/-! the machine laws' own run -/
namespace P
open PySem L2 G
local macro_rules | `(tactic| top_raise0) => `(tactic| first | omega | (unfold mulOk; omega) | ((repeat' (apply And.intro)) <;> first | omega | with_reducible assumption | rfl | (unfold mulOk; omega)))
local macro_rules | `(tactic| k_upd) => `(tactic| first | with_reducible assumption | ((with_reducible refine At.fr0 (by with_reducible assumption) ?_); k_upd) | ((with_reducible refine At.fr1 (by with_reducible assumption) ?_ ?_); (focus k_upd); top_raise) | ((with_reducible refine At.fr2 (by with_reducible assumption) ?_ ?_ ?_); (focus k_upd); (focus top_raise); top_raise))
local macro_rules | `(tactic| k_updF) => `(tactic| first | with_reducible assumption | with_reducible exact At.lt (by with_reducible assumption) | ((with_reducible refine Fr.lt (by with_reducible assumption) ?_); k_updF))
local macro_rules | `(tactic| top_raise) => `(tactic| first | with_reducible assumption | ((with_reducible refine Nw.ne (by with_reducible assumption) ?_); k_updF) | ((with_reducible refine Nw.ne' (by with_reducible assumption) ?_); k_updF) | omega)
local macro_rules | `(tactic| kbo_bools) => `(tactic| simp -dsimp)
local macro_rules | `(tactic| kat_tups) => `(tactic| first | rfl | with_reducible assumption | exact atI_nat rfl)
local macro_rules | `(tactic| tb_rel) => `(tactic| first
   | ((with_reducible refine gd_i ?_ ?_); (focus first | exact ⟨_, lAt_at (by k_upd)⟩ | top_raise0))
   | ((with_reducible apply atK_i); (focus kat_tups))
   | ((with_reducible apply r_ix); (focus k_upd))
   | ((with_reducible apply r_len); (focus k_upd))
   | ((with_reducible apply r_inL); (focus k_upd); (focus (simp; done)))
   | ((with_reducible apply r_chk); (focus k_upd))
   | ((with_reducible refine r_new ?_); intro _ _ _ _ _)
   | ((with_reducible apply r_app); (focus k_upd); (focus top_raise0); intro _ hA _; (try simp only [List.nil_append, List.cons_append] at hA))
   | ((with_reducible apply r_putT); (focus k_upd); (focus top_caught); (focus top_caught); intro _ hA _; (try simp only [Int.reduceToNat, List.set_cons_zero, List.set_cons_succ] at hA))
   | (with_reducible refine ws_for ?_)
   | (with_reducible refine wfor_t1 ?_)
   | (with_reducible refine wfor_t0 ?_)
   | ((with_reducible refine r_eqO ?_ ?_ ?_); (focus (simp [okD, okL]; done)); (focus (simp [dpD, dpL]; done)))
   | ((with_reducible refine r_neO ?_ ?_ ?_); (focus (simp [okD, okL]; done)); (focus (simp [dpD, dpL]; done)))
   | ((with_reducible refine sel_t ?_ ?_); (focus top_raise0))
   | ((with_reducible refine sel_f ?_ ?_); (focus top_raise0)))
local macro_rules | `(tactic| tb_start) => `(tactic| repeat (first | kbo_bools | tb_rel))
local macro_rules | `(tactic| top_caught) => `(tactic| first | omega | (simp; done) | (simp; omega) | (simp; constructor <;> omega))
local macro_rules | `(tactic| top_name) => `(tactic| first | with_reducible assumption | exact Fr.refl | ((with_reducible refine Fr.trans ?_ (by with_reducible assumption)); top_name) | ((with_reducible refine Fr.trans ?_ (Fr.up (by with_reducible assumption))); top_name) | ((with_reducible refine Fr.new ?_ ?_ (by with_reducible assumption)); (focus top_name); allgen_close_more) | ((with_reducible refine Fr.new2 ?_ ?_ (by with_reducible assumption) (by simp)); (focus top_name); allgen_close_more))
local macro_rules | `(tactic| allgen_close_more) => `(tactic| first | with_reducible assumption | ((with_reducible refine Fr.nw (by with_reducible assumption) ?_); allgen_close_more))
local macro_rules | `(tactic| allgen_close2_more) => `(tactic| simp only [fill_some, fill_none, fill_nil, Nat.reduceAdd])
local macro_rules | `(tactic| tb_rel) => `(tactic| first
   | ((with_reducible apply r_fld); (focus k_upd))
   | ((with_reducible apply r_chkO); (focus k_upd); (focus (simp; done)))
   | ((with_reducible apply r_chkD); (focus k_upd))
   | ((with_reducible apply r_dict); (focus k_upd))
   | ((with_reducible apply r_tupleB); (focus k_upd))
   | ((with_reducible apply r_listB); (focus k_upd))
   | ((with_reducible apply r_ix2L); (focus k_upd))
   | ((with_reducible apply onIt_i); (focus k_upd)))
/-- what stands of the law's own run: boxes, memory, rows; the code and the replies are of old -/
structure LAt (s0 s : Sto) (jb jd jw jc jr : Nat) (code : List Int) (R : List Repl) (S : St) : Prop where
  bx : At s jb (.lst (S.bx.map D.int))
  mem : At s jd (.dk (mD S.mem))
  rows : ∃ rds, At s jw (.lst rds) ∧ RowsR s0 s jd rds S.rows
  code : At s jc (.lst (code.map D.int))
  repl : ∃ rds, At s jr (.lst rds) ∧ RepR s0 s rds R
  nb : Nw s0 jb
  nd : Nw s0 jd
  nw : Nw s0 jw
  oc : jc < s0.length
  or' : jr < s0.length
  bw : jb ≠ jw
  fr : Fr [] s0 s
section
variable {s0 s t : Sto} {jb jd jw jc jr : Nat} {code : List Int} {R : List Repl} {S : St}
theorem LAt.fr0 (h : LAt s0 s jb jd jw jc jr code R S) (f : Fr [] s t) : LAt s0 t jb jd jw jc jr code R S := by
  obtain ⟨h1, h2, ⟨rw_, h3, h3'⟩, h4, ⟨rr, h5, h5'⟩, n1, n2, n3, o1, o2, d1, fr⟩ := h
  exact ⟨h1.fr0 f, h2.fr0 f, ⟨rw_, h3.fr0 f, h3'.fr f (by simp)⟩, h4.fr0 f, ⟨rr, h5.fr0 f, h5'.fr f (by simp)⟩, n1, n2, n3, o1, o2, d1, fr.trans f⟩
theorem LAt.setB (h : LAt s0 s jb jd jw jc jr code R S) {bx : List Int} (f : Fr [jb] s t) (hb : At t jb (.lst (bx.map D.int))) : LAt s0 t jb jd jw jc jr code R { S with bx := bx } := by
  obtain ⟨h1, h2, ⟨rw_, h3, h3'⟩, h4, ⟨rr, h5, h5'⟩, n1, n2, n3, o1, o2, d1, fr⟩ := h
  exact ⟨hb, h2.fr1 f (ne_ld h1 h2).symm, ⟨rw_, h3.fr1 f d1.symm, h3'.fr f fun k hk => by rw [List.mem_singleton.mp hk]; exact .inr (nd_l h1)⟩, h4.fr1 f (n1.ne o1), ⟨rr, h5.fr1 f (n1.ne o2), h5'.fr f (by simpa using n1)⟩, n1, n2, n3, o1, o2, d1, fr.new n1 f⟩
theorem LAt.setM (h : LAt s0 s jb jd jw jc jr code R S) {M : Mem} (f : Fr [jd] s t) (hd : At t jd (.dk (mD M))) : LAt s0 t jb jd jw jc jr code R { S with mem := M } := by
  obtain ⟨h1, h2, ⟨rw_, h3, h3'⟩, h4, ⟨rr, h5, h5'⟩, n1, n2, n3, o1, o2, d1, fr⟩ := h
  exact ⟨h1.fr1 f (ne_ld h1 h2), hd, ⟨rw_, h3.fr1 f (ne_ld h3 h2), h3'.fr f fun k hk => by rw [List.mem_singleton.mp hk]; exact .inl rfl⟩, h4.fr1 f (n2.ne o1), ⟨rr, h5.fr1 f (n2.ne o2), h5'.fr f (by simpa using n2)⟩, n1, n2, n3, o1, o2, d1, fr.new n2 f⟩
theorem LAt.go (h : LAt s0 s jb jd jw jc jr code R S) (p : Int) : LAt s0 s jb jd jw jc jr code R { S with place := p } := ⟨h.bx, h.mem, h.rows, h.code, h.repl, h.nb, h.nd, h.nw, h.oc, h.or', h.bw, h.fr⟩
end
section
variable {s0 s : Sto} {jb jd jw jc jr : Nat} {P : Plan} {code : List Int} {R : List Repl} {S : St} {Q : D → Sto → Prop} {E : XP} {u : Lk2 Q E}
theorem w_lreach {x : String} {a b n : Int} (p : P.ok) (ok : StOk S) (h : LAt s0 s jb jd jw jc jr code R S) (hx : x = "load" ∨ x = "store") (a0 : 0 ≤ a) (a1 : a < 8) (b0 : 0 ≤ b) (b1 : b < 8) (hM : S.mem.length < 900000)
    (k0 : ∀ t, (eff P R x [a, b, n] S).1 = none → LAt s0 t jb jd jw jc jr code R (eff P R x [a, b, n] S).2 → Q .non t)
    (k1 : eff P R x [a, b, n] S = (some ("beyond", [(geti S.bx b + n) % 4294967296]), S) → Q (.int ((geti S.bx b + n) % 4294967296)) s) : wp (g_law_reach [P.d, insD x [a, b, n], .box jb, .box jd]) s Q E u := by
  refine u_law_reach ?_
  unfold c_law_reach insD
  have bg := big_eq
  have hlen := ok.bl
  obtain ⟨e1, v0, v1⟩ := ok.at b0 b1
  obtain ⟨e2, w0, w1⟩ := ok.at a0 a1
  obtain ⟨pk0, pk1, pb0, bm, pb1, m0, q0, ms, g0, g1⟩ := p
  have hbx := h.bx
  have hmem := h.mem
  simp only [List.map_cons, List.map_nil]
  tb_start
  by_cases hin : inR P.k P.b ((geti S.bx b + n) % 4294967296)
  · obtain ⟨i1, i2⟩ := hin
    rcases hx with rfl | rfl
    · have ee : eff P R "load" [a, b, n] S = (none, { S with bx := S.bx.set a.toNat (getM S.mem ((geti S.bx b + n) % 4294967296)) }) := by
        simp [eff, i1, i2]
      rw [ee] at k0
      tb_start
      refine r_getD (k := .inl ((geti S.bx b + n) % 4294967296)) hmem rfl ?_
      rw [get_mD]
      tb_start
      refine r_put2L hbx a0 (by simp [hlen]; omega) fun t ht ft => ?_
      rw [set_int] at ht
      tb_start
      exact k0 t rfl (h.setB ft ht)
    · have ee : eff P R "store" [a, b, n] S = (none, { S with mem := putM S.mem ((geti S.bx b + n) % 4294967296) (geti S.bx a) }) := by
        simp [eff, i1, i2]
      rw [ee] at k0
      tb_start
      refine r_put2D (k := .inl ((geti S.bx b + n) % 4294967296)) hmem rfl (by rw [mD_len]; omega) fun t ht ft => ?_
      rw [put_mD] at ht
      tb_start
      exact k0 t rfl (h.setM ft ht)
  · have k1 := k1 (by simp only [eff, if_pos hx, if_neg hin])
    by_cases c : P.b ≤ (geti S.bx b + n) % 4294967296
    · have c2 : ¬ (geti S.bx b + n) % 4294967296 < P.b + p2 P.k := fun z => hin ⟨c, z⟩
      tb_start
      try exact k1
    · tb_start
      try exact k1
theorem w_lgate {n : Int} (p : P.ok) (ok : StOk S) (h : LAt s0 s jb jd jw jc jr code R S) (hM : S.mem.length < 400000) (hR : S.rows.length < 900000) (hRo : ∀ r ∈ R, ReplOk r ∧ r.2.length ≤ 400000 ∧ (r.2.map (·.1)).Nodup)
    (k : ∀ t, LAt s0 t jb jd jw jc jr code R (eff P R "gate" [n] S).2 → Q (decD (eff P R "gate" [n] S).1) t) : wp (g_law_gate [P.d, .int n, .box jb, .box jd, .box jw, .box jr]) s Q E u := by
  refine u_law_gate ?_
  unfold c_law_gate
  have bg := big_eq
  have hlen := ok.bl
  obtain ⟨rr, hrep, hrep'⟩ := h.repl
  obtain ⟨rw_, hrow, hrow'⟩ := h.rows
  have hbx := h.bx
  have hmem := h.mem
  have hr1 := hrep'.1
  have hw1 := hrow'.1
  tb_start
  refine sel_i (fun c => ?_) (fun c => ?_)
  · have ee : eff P R "gate" [n] S = (some ("lost", []), S) := by
      simp [eff, c]
    rw [ee] at k
    tb_start
    exact k s h
  tb_start
  rename_i t1 j1 h1 n1 f1 t2 h2 f2
  have hA := h.fr0 f1
  have ne1 : j1 ≠ jw := (ne_ld (hrow.fr0 f1) h1).symm
  have ne2 : j1 ≠ jd := fun z => by
    have q := hmem.lt
    unfold Nw at n1
    omega
  have nw1 : Nw s0 j1 := h.fr.nw n1
  have hrow2 := (hrow'.fr (t := t1) f1 (by simp)).fr (t := t2) f2 (fun k hk => by rw [List.mem_singleton.mp hk]; exact .inr (nd_l (hrow.fr0 f1)))
  have hrow3 := hrow2.push (n := n) (bx := S.bx) (h1.fr1 f2 ne1) nw1 ne2 hrow' n1
  have hB : LAt s0 t2 jb jd jw jc jr code R { S with rows := S.rows ++ [(n, S.bx, S.mem)] } := by
    obtain ⟨h1, h2', ⟨rw_', h3, h3'⟩, h4, ⟨rr, h5, h5'⟩, m1, m2, m3, o1, o2, d1, fr⟩ := hA
    exact ⟨h1.fr1 f2 d1, h2'.fr1 f2 (ne_ld h3 h2').symm, ⟨_, h2, hrow3⟩, h4.fr1 f2 (m3.ne o1), ⟨rr, h5.fr1 f2 (m3.ne o2), h5'.fr f2 (by simpa using m3)⟩, m1, m2, m3, o1, o2, d1, fr.new m3 f2⟩
  have hbx2 := hB.bx
  have hmem2 := hB.mem
  have hrep2 : At t2 jr (.lst rr) := (hrep.fr0 f1).fr1 f2 (h.nw.ne h.or')
  have hrepB : RepR s0 t2 rr R := (hrep'.fr f1 (by simp)).fr f2 (by simpa using h.nw)
  tb_start
  refine sel_i (fun c2 => ?_) (fun c2 => ?_)
  · have ee : eff P R "gate" [n] S = (some ("asks", [n]), { S with rows := S.rows ++ [(n, S.bx, S.mem)] }) := by
      have c3 : R.length < S.rows.length + 1 := by omega
      simp [eff, c, c3]
    rw [ee] at k
    tb_start
    exact k t2 hB
  have c3 : S.rows.length < R.length := by omega
  obtain ⟨r, hr⟩ : ∃ r, R[S.rows.length]? = some r := ⟨_, List.getElem?_eq_getElem c3⟩
  obtain ⟨jx, g1, g2, g3⟩ := hrepB.2 _ _ hr
  obtain ⟨⟨q1, q2, q3⟩, q4, q5⟩ := hRo r (List.mem_of_getElem? hr)
  have ee : eff P R "gate" [n] S = (none, { S with bx := r.1 ++ [geti S.bx 7], mem := mergeM S.mem r.2, rows := S.rows ++ [(n, S.bx, S.mem)] }) := by
    have c4 : ¬ R.length < S.rows.length + 1 := by omega
    simp [eff, c, c4, hr]
  rw [ee] at k
  tb_start
  have ix : atI rr (rw_.length : Int) = some (.tup [.tup (r.1.map D.int), .box jx]) := atI_nat (by rw [hw1]; exact g1)
  refine atK_i ix ?_
  tb_start
  refine wfor_r (fun i (_ : Unit) => [some P.d, some (.int n), some (.box jb), some (.box jd), some (.box jw), some (.box jr), none, none, some (.tup (r.1.map D.int)), some (.box jx)])
    (fun i _ t => LAt s0 t jb jd jw jc jr code R { S with bx := r.1.take i ++ S.bx.drop i, rows := S.rows ++ [(n, S.bx, S.mem)] } ∧ At t jx (.dk (mD r.2))) () ?_ ⟨by simpa using hB, g2⟩ ?_ ?_
  · exact ⟨rfl, rfl, rfl, rfl, rfl, rfl, rfl, rfl, trivial⟩
  · rintro i ⟨⟩ f t hi ⟨hC, gx⟩
    have hi : i < 7 := hi
    obtain ⟨v, hv⟩ : ∃ v, r.1[i]? = some v := ⟨_, List.getElem?_eq_getElem (by omega)⟩
    have hv2 : atI (r.1.map D.int) (i : Int) = some (.int v) := atI_nat (by rw [List.getElem?_map, hv]; rfl)
    have hbx3 := hC.bx
    have l3 : (r.1.take i ++ S.bx.drop i).length = 8 := by simp [q1, hlen]; omega
    tb_start
    refine r_put2L hbx3 (by omega) (by rw [List.length_map, l3]; omega) fun t4 h4 f4 => ?_
    rw [set_int] at h4
    have es : (r.1.take i ++ S.bx.drop i).set (i : Int).toNat v = r.1.take (i + 1) ++ S.bx.drop (i + 1) := by
      rw [Int.toNat_natCast, List.set_append_right _ _ (by simp [q1]; omega)]
      have : (i - (r.1.take i).length) = 0 := by simp [q1]; omega
      rw [this, List.take_add_one, hv, List.drop_eq_getElem_cons (by omega : i < S.bx.length), List.append_assoc]
      rfl
    rw [es] at h4
    refine dn_i ⟨(), ⟨rfl, rfl, rfl, rfl, rfl, rfl, rfl, rfl, trivial⟩, hC.setB f4 h4, gx.fr1 f4 (ne_ld hbx3 gx).symm⟩
  · rintro ⟨⟩ f t ⟨hC, gx⟩
    have e7 : r.1.take 7 ++ S.bx.drop 7 = r.1 ++ [geti S.bx 7] := by
      have a : r.1.take 7 = r.1 := List.take_of_length_le (by omega)
      rw [a]
      congr 1
      rw [List.drop_eq_getElem_cons (by omega : 7 < S.bx.length)]
      have : S.bx.drop 8 = [] := List.drop_eq_nil_of_le (by omega)
      rw [this]
      unfold geti
      rw [List.getD_eq_getElem?_getD, show (7 : Int).toNat = 7 from rfl, List.getElem?_eq_getElem (by omega : 7 < S.bx.length)]
      rfl
    have hC : LAt s0 t jb jd jw jc jr code R { S with bx := r.1.take 7 ++ S.bx.drop 7, rows := S.rows ++ [(n, S.bx, S.mem)] } := hC
    rw [e7] at hC
    have njx : jx ≠ jd := (hC.nd.ne g3)
    tb_start
    refine r_lock (j := jx) rfl gx fun t5 h5 f5 => ?_
    have hmem5 : At t5 jd (.dk (mD S.mem)) := hC.mem.fr1 f5 njx.symm
    tb_start
    refine r_keysF rfl h5 ?_
    refine wfor_i (σ := Unit) ((mD r.2).map fun kv => keyD kv.1) (fun i _ => [some P.d, some (.int n), some (.box jb), some (.box jd), some (.box jw), some (.box jr), none, none, some (.tup (r.1.map D.int)), some (.box jx)])
      (fun i _ t => At t jx (.fd (mD r.2)) ∧ At t jd (.dk (mD (mergeM S.mem (r.2.take i)))) ∧ Fr [jd] t5 t) () (items_dk h5) ?_ ⟨h5, by simpa [mergeM] using hmem5, Fr.refl⟩ (fun i _ t q => items_dk q.1) ?_ ?_
    · exact ⟨rfl, rfl, rfl, rfl, rfl, rfl, rfl, rfl, trivial⟩
    · rintro i x ⟨⟩ f t6 hx ⟨h6, m6, f6⟩
      have hil : i < r.2.length := by
        have := (List.getElem?_eq_some_iff.mp hx).1
        simpa [mD] using this
      obtain ⟨q, hq⟩ : ∃ q, r.2[i]? = some q := ⟨_, List.getElem?_eq_getElem hil⟩
      have hx2 : x = .int q.1 := by
        rw [List.getElem?_map] at hx
        unfold mD at hx
        rw [List.getElem?_map, hq] at hx
        cases hx
        rfl
      subst hx2
      have vq := val_at q5 (List.mem_of_getElem? hq)
      have hm6 : (mergeM S.mem (r.2.take i)).length ≤ 800000 := by
        have := mergeM_len (M := S.mem) (N := r.2.take i)
        have := List.length_take_le i r.2
        omega
      tb_start
      refine r_ix2F (k := .inl q.1) h6 rfl vq ?_
      tb_start
      refine r_put2D (k := .inl q.1) m6 rfl (by rw [mD_len]; omega) fun t7 h7 f7 => ?_
      rw [put_mD] at h7
      have es : putM (mergeM S.mem (r.2.take i)) q.1 q.2 = mergeM S.mem (r.2.take (i + 1)) := by
        rw [List.take_add_one, hq]
        unfold mergeM
        rw [List.foldl_append]
        rfl
      rw [es] at h7
      exact dn_i ⟨(), ⟨rfl, rfl, rfl, rfl, rfl, rfl, rfl, rfl, trivial⟩, h6.fr1 f7 njx, h7, f6.trans f7⟩
    · rintro ⟨⟩ f t6 ⟨h6, m6, f6⟩
      have e6 : r.2.take ((mD r.2).map fun kv => keyD kv.1).length = r.2 := List.take_of_length_le (by simp [mD])
      rw [e6] at m6
      tb_start
      refine ⟨h6, fun t7 h7 f7 => ?_⟩
      have F : Fr [jd] t t7 := by
        refine ⟨Nat.le_trans f5.1 (Nat.le_trans f6.1 f7.1), fun z hz nz => ?_⟩
        by_cases c : z = jx
        · subst c
          exact (show t7[z]? = _ from h7).trans (show t[z]? = _ from gx).symm
        · have a5 := f5.2 z hz (by simpa using c)
          have a6 := f6.2 z (Nat.lt_of_lt_of_le hz f5.1) nz
          have a7 := f7.2 z (Nat.lt_of_lt_of_le hz (Nat.le_trans f5.1 f6.1)) (by simpa using c)
          rw [a7, a6, a5]
      have m7 : At t7 jd (.dk (mD (mergeM S.mem r.2))) := m6.fr1 f7 njx.symm
      tb_start
      exact k t7 (hC.setM F m7)
structure Lim2 (R : List Repl) (S : St) : Prop where
  m : S.mem.length < 400000
  r : S.rows.length < 400000
  rep : ∀ r ∈ R, ReplOk r ∧ r.2.length ≤ 400000 ∧ (r.2.map (·.1)).Nodup
noncomputable abbrev cMidA : CS := sIf (tE (cBin dEq (cBin dIx2 (cV 11) (cK (.int 0))) (cK (.str "stop")))) (sSet 7 (cTup (aCons (cK (.str "stopped")) (aNil)))) (sIf (tE (cBin dEq (cBin dIx2 (cV 11) (cK (.int 0))) (cK (.str "gate")))) (sSet 7 (cCall g_law_gate (aCons (cV 0) (aCons (cBin dIx2 (cV 11) (cK (.int 1))) (aCons (cV 9) (aCons (cV 10) (aCons (cV 5) (aCons (cV 3) (aNil))))))))) (sIf (tE (cBin (dIn false) (cBin dIx2 (cV 11) (cK (.int 0))) (cTup (aCons (cK (.str "load")) (aCons (cK (.str "store")) (aNil)))))) (sSeq (sSet 13 (cCall g_law_reach (aCons (cV 0) (aCons (cV 11) (aCons (cV 9) (aCons (cV 10) (aNil))))))) (sIf (tE (cUn dNotN (cV 13))) (sSet 7 (cTup (aCons (cK (.str "beyond")) (aCons (cV 13) (aNil))))) (sNil))) (sIf (tE (cUn dNotN (cV 12))) (sPut dPut2 (cV 9) (cBin dIx2 (cV 11) (cK (.int 1))) (cV 12)) (sNil))))
abbrev cMidT : CS := sIf (tE (cUn dIsN (cV 7))) (sSet 8 (cCall g_law_goes_1 (aCons (cV 11) (aCons (cV 8) (aCons (cV 9) (aNil)))))) (sNil)
abbrev lEnv (P : Plan) (jc jr jw jb jd : Nat) (e2 e4 : Option D) (n : Int) (e : D) (pl : Int) (i m : D) (e13 : Option D) : En := [some P.d, some (.box jc), e2, some (.box jr), e4, some (.box jw), some (.int n), some e, some (.int pl), some (.box jb), some (.box jd), some i, some m, e13]
theorem lmid_tail {x : String} {vs : List Int} {S' : St} {eo : Option Ins} {e2 e4 e13 : Option D} {n : Int} {m : D} {N B C : En → Sto → Prop} {v : Lk5 N Q B C E} (ok : StOk S') (h : LAt s0 s jb jd jw jc jr code R S') (hi : InsOk x vs)
    (k : N (lEnv P jc jr jw jb jd e2 e4 n (decD eo) (if eo = none then nxt x vs S' else S'.place) (insD x vs) m e13) s) : ws cMidT (lEnv P jc jr jw jb jd e2 e4 n (decD eo) S'.place (insD x vs) m e13) s N Q B C E v := by
  unfold cMidT
  cases eo with
  | none =>
    rw [if_pos rfl] at k
    unfold decD at *
    tb_start
    refine w_lgoes ok h.bx hi ?_
    tb_start
  | some e =>
    rw [if_neg (by simp)] at k
    unfold decD insD at *
    tb_start
theorem w_lmidA {x : String} {vs : List Int} {e2 e4 e13 : Option D} {n : Int} {N B C : En → Sto → Prop} {v : Lk5 N Q B C E} (p : P.ok) (ok : StOk S) (h : LAt s0 s jb jd jw jc jr code R S) (hi : InsOk x vs) (lim : Lim2 R S)
    (k : ∀ t e13', LAt s0 t jb jd jw jc jr code R (eff P R x vs S).2 → N (lEnv P jc jr jw jb jd e2 e4 n (decD (eff P R x vs S).1) S.place (insD x vs) (optI (mkI P x vs S)) e13') t) : ws cMidA (lEnv P jc jr jw jb jd e2 e4 n .non S.place (insD x vs) (optI (mkI P x vs S)) e13) s N Q B C E v := by
  have hbx := h.bx
  have hi' := hi
  have hlen := ok.bl
  have l1 := lim.m
  have l2 := lim.r
  unfold cMidA lEnv insD at *
  cases hi with
  | stop =>
    simp only [mkI, optI, List.map_cons, List.map_nil] at k ⊢
    simp only [eff, decD, insD, List.map_cons, List.map_nil] at k
    tb_start
    exact k s e13 h
  | @put a v a0 a1 v0 v1 =>
    simp only [mkI, optI, eff, if_true, decD, List.map_cons, List.map_nil] at k ⊢
    tb_start
    refine r_put2L hbx a0 (by simp [hlen]; omega) fun t ht ft => ?_
    rw [set_int] at ht
    tb_start
    exact k t e13 (h.setB ft ht)
  | @three x a b c hx a0 a1 b0 b1 c0 c1 =>
    have n1 : ¬ (x = "load" ∨ x = "store") := by rcases hx with rfl | rfl | rfl | rfl | rfl | rfl | rfl | rfl <;> simp
    have n2 : x ≠ "more" := by rcases hx with rfl | rfl | rfl | rfl | rfl | rfl | rfl | rfl <;> simp
    simp only [mkI, optI, eff, if_neg n1, if_neg n2, decD, List.map_cons, List.map_nil] at k ⊢
    generalize hv : valI x (geti S.bx b) (geti S.bx c) = val at k ⊢
    clear hv
    rcases hx with rfl | rfl | rfl | rfl | rfl | rfl | rfl | rfl
    all_goals
      tb_start
      refine r_put2L hbx a0 (by simp [hlen]; omega) fun t ht ft => ?_
      rw [set_int] at ht
      tb_start
      exact k t e13 (h.setB ft ht)
  | @more x a b n' hx a0 a1 b0 b1 n0 n1 =>
    rcases hx with rfl | rfl | rfl
    · simp only [mkI, optI, eff, decD, List.map_cons, List.map_nil, String.reduceEq, or_self, if_false, if_true] at k ⊢
      tb_start
      refine r_put2L hbx a0 (by simp [hlen]; omega) fun t ht ft => ?_
      rw [set_int] at ht
      tb_start
      exact k t e13 (h.setB ft ht)
    · have rr : ∀ (Q' : D → Sto → Prop) (E' : XP), _ → _ → wp (g_law_reach [P.d, insD "load" [a, b, n'], .box jb, .box jd]) s Q' E' := fun Q' E' q0 q1 => w_lreach p ok h (.inl rfl) a0 a1 b0 b1 (by omega) q0 q1
      have e1 : mkI P "load" [a, b, n'] S = none := by simp [mkI]
      rw [e1] at k ⊢
      generalize eff P R "load" [a, b, n'] S = ef at k rr
      obtain ⟨eo, S'⟩ := ef
      unfold insD at rr
      simp only [optI, List.map_cons, List.map_nil] at k rr ⊢
      tb_start
      refine rr _ _ (fun t q0 q => ?_) (fun q => ?_)
      · cases q0
        unfold decD at k
        tb_start
        exact k t _ q
      · cases q
        unfold decD insD at k
        simp only [List.map_cons, List.map_nil] at k
        tb_start
        exact k s _ h
    · have rr : ∀ (Q' : D → Sto → Prop) (E' : XP), _ → _ → wp (g_law_reach [P.d, insD "store" [a, b, n'], .box jb, .box jd]) s Q' E' := fun Q' E' q0 q1 => w_lreach p ok h (.inr rfl) a0 a1 b0 b1 (by omega) q0 q1
      have e1 : mkI P "store" [a, b, n'] S = none := by simp [mkI]
      rw [e1] at k ⊢
      generalize eff P R "store" [a, b, n'] S = ef at k rr
      obtain ⟨eo, S'⟩ := ef
      unfold insD at rr
      simp only [optI, List.map_cons, List.map_nil] at k rr ⊢
      tb_start
      refine rr _ _ (fun t q0 q => ?_) (fun q => ?_)
      · cases q0
        unfold decD at k
        tb_start
        exact k t _ q
      · cases q
        unfold decD insD at k
        simp only [List.map_cons, List.map_nil] at k
        tb_start
        exact k s _ h
  | @place x n' hx n0 n1 =>
    rcases hx with rfl | rfl
    · simp only [mkI, optI, eff, decD, List.map_cons, List.map_nil, String.reduceEq, or_false, if_true] at k ⊢
      tb_start
      exact k s e13 h
    · simp only [mkI, optI, List.map_cons, List.map_nil] at k ⊢
      tb_start
      refine w_lgate p ok h (by omega) (by omega) lim.rep fun t q => ?_
      tb_start
      exact k t e13 q
  | @jumpif a n' a0 a1 n0 n1 =>
    simp only [mkI, optI, eff, decD, List.map_cons, List.map_nil, String.reduceEq, if_false, if_true] at k ⊢
    tb_start
    exact k s e13 h
  | @through b b0 b1 =>
    simp only [mkI, optI, eff, decD, List.map_cons, List.map_nil, String.reduceEq, false_or, if_true] at k ⊢
    tb_start
    exact k s e13 h
  | @two x a b hx a0 a1 b0 b1 =>
    have n1 : x ≠ "put" := by rcases hx with rfl | rfl <;> simp
    have n2 : x ≠ "jumpif" := by rcases hx with rfl | rfl <;> simp
    simp only [mkI, optI, eff, if_neg n1, if_neg n2, decD, List.map_cons, List.map_nil] at k ⊢
    generalize (if x = "fit" then fitI P.k P.b (geti S.bx b) else aimI P.m P.s (geti S.bx b)) = val at k ⊢
    rcases hx with rfl | rfl
    all_goals
      tb_start
      refine r_put2L hbx a0 (by simp [hlen]; omega) fun t ht ft => ?_
      rw [set_int] at ht
      tb_start
      exact k t e13 (h.setB ft ht)
theorem w_lmid {x : String} {vs : List Int} {e2 e4 e13 : Option D} {n : Int} {N B C : En → Sto → Prop} {v : Lk5 N Q B C E} (p : P.ok) (ok : StOk S) (h : LAt s0 s jb jd jw jc jr code R S) (hi : InsOk x vs) (lim : Lim2 R S)
    (k : ∀ t e13', LAt s0 t jb jd jw jc jr code R (doIns P R x vs S).2 → N (lEnv P jc jr jw jb jd e2 e4 n (decD (doIns P R x vs S).1) (doIns P R x vs S).2.place (insD x vs) (optI (mkI P x vs S)) e13') t) : ws (sSeq cMidA cMidT) (lEnv P jc jr jw jb jd e2 e4 n .non S.place (insD x vs) (optI (mkI P x vs S)) e13) s N Q B C E v := by
  rw [ws_seq]
  refine w_lmidA p ok h hi lim fun t e13' q => ?_
  have ok2 := eff_ok p ok hi fun r hr => (lim.rep r hr).1
  have epl : (eff P R x vs S).2.place = S.place := by
    unfold eff
    repeat' split
    all_goals rfl
  have T := lmid_tail (P := P) (x := x) (vs := vs) (eo := (eff P R x vs S).1) (e2 := e2) (e4 := e4) (e13 := e13') (n := n) (m := optI (mkI P x vs S)) (N := N) (B := B) (C := C) (Q := Q) (E := E) (v := .u) ok2 q hi ?_
  · rw [epl] at T
    exact T
  · have k := k t e13'
    unfold doIns at k
    dsimp only at k
    by_cases c : (eff P R x vs S).1 = none
    · rw [if_pos c] at k ⊢
      exact k (q.go _)
    · rw [if_neg c] at k ⊢
      exact k q
theorem w_lrun {pl most : Int} {bx : List Int} {M : Mem} {jm : Nat} {rds : List D} (p : P.ok) (hc : At s jc (.lst (code.map D.int))) (hc0 : Vals32 code) (hr : At s jr (.lst rds)) (hd : At s jm (.dk (mD M))) (hR : RepR s s rds R) (ok : StOk ⟨pl, bx, M, []⟩)
    (m0 : 0 ≤ most) (m1 : most ≤ 1000) (hM : M.length ≤ 1000) (hRo : ∀ r ∈ R, ReplOk r ∧ r.2.length ≤ 100 ∧ (r.2.map (·.1)).Nodup)
    (k : ∀ t d, ResR s t (mrun P code R most (most.toNat + 1) ⟨pl, bx, M, []⟩ 0).1 (mrun P code R most (most.toNat + 1) ⟨pl, bx, M, []⟩ 0).2.1 (mrun P code R most (most.toNat + 1) ⟨pl, bx, M, []⟩ 0).2.2 d → Fr [] s t → Q d t) :
    wp (g_law_run [P.d, .box jc, .tup [.int pl, .tup (bx.map D.int), .box jm], .box jr, .int most]) s Q E u := by
  refine u_law_run ?_
  unfold c_law_run
  generalize hres : mrun P code R most (most.toNat + 1) ⟨pl, bx, M, []⟩ 0 = res at k
  tb_start
  rename_i t1 jb h1 n1 f1 t2 jd h2 n2 f2 t3 jw h3 n3 f3
  have F3 : Fr [] s t3 := (f1.trans f2).trans f3
  have hA : LAt s t3 jb jd jw jc jr code R ⟨pl, bx, M, []⟩ := ⟨(h1.fr0 f2).fr0 f3, h2.fr0 f3, ⟨[], h3, rfl, fun i r e => by simp at e⟩, hc.fr0 F3, ⟨rds, hr.fr0 F3, hR.fr F3 (by simp)⟩, n1, f1.nw n2, (f1.trans f2).nw n3, hc.lt, hr.lt, n3.ne (f2.lt h1.lt), F3⟩
  refine ws_while (σ := St × Int × Option Ins) (fun a => [some P.d, some (.box jc), some (.tup [.int pl, .tup (bx.map D.int), .box jm]), some (.box jr), some (.int most), some (.box jw), some (.int a.2.1), some (decD a.2.2), some (.int a.1.place), some (.box jb), some (.box jd), none, none, none])
    (fun a t => LAt s t jb jd jw jc jr code R a.1 ∧ StOk a.1 ∧ 0 ≤ a.2.1 ∧ a.2.1 ≤ most ∧ (a.1.mem.length : Int) ≤ 1000 + 100 * a.2.1 ∧ (a.1.rows.length : Int) ≤ a.2.1 ∧
      (match a.2.2 with | none => mrun P code R most ((most - a.2.1).toNat + 1) a.1 a.2.1 = res | some e => (e, a.1, a.2.1) = res))
    (fun a => match a.2.2 with | none => (most - a.2.1).toNat + 1 | some _ => 0) (⟨pl, bx, M, []⟩, 0, none) ?_ ?_ ?_ ?_
  · show (most - 0).toNat + 1 < 100000
    omega
  · exact ⟨rfl, rfl, rfl, rfl, rfl, rfl, rfl, rfl, rfl, rfl, rfl, trivial⟩
  · refine ⟨hA, ok, Int.le_refl _, m0, by show (M.length : Int) ≤ 1000 + 100 * 0; omega, by simp, ?_⟩
    show mrun P code R most ((most - 0).toNat + 1) _ 0 = res
    rw [Int.sub_zero]
    exact hres
  · rintro ⟨S, n, e⟩ f t ⟨hB, ok2, n0, n1', lm, lr, he⟩
    dsimp only at hB ok2 n0 n1' lm lr he
    have hbx := hB.bx
    cases e with
    | some e =>
      dsimp only at he
      subst he
      obtain ⟨rw_, g1, g2⟩ := hB.rows
      unfold decD
      have e1 : isNon (insD e.1 e.2) = false := rfl
      tb_start
      exact k t _ ⟨jd, jw, rw_, rfl, hB.mem, g1, g2, hB.nd, hB.nw⟩ hB.fr
    | none =>
      dsimp only at he
      unfold decD
      tb_start
      refine w_read2 hB.code hc0 fun t3 f3 => ?_
      have hC := hB.fr0 f3
      cases hi : insAt code S.place with
      | none =>
        have he : (("lost", []), S, n) = res := by rw [← he]; unfold mrun; rw [hi]
        unfold decD
        tb_start
        refine dn_i ⟨(S, n, some ("lost", [])), ?_, ?_, hC, ok2, n0, n1', lm, lr, he⟩
        · show 0 < (most - n).toNat + 1
          omega
        · exact ⟨rfl, rfl, rfl, rfl, rfl, rfl, rfl, rfl, rfl, rfl, rfl, trivial⟩
      | some i =>
        have hok := insAt_ok hc0 hi
        by_cases c : n = most
        · have he : (("spent", []), S, n) = res := by rw [← he]; unfold mrun; rw [hi]; simp only [if_pos c]
          unfold decD
          tb_start
          refine dn_i ⟨(S, n, some ("spent", [])), ?_, ?_, hC, ok2, n0, n1', lm, lr, he⟩
          · show 0 < (most - n).toNat + 1
            omega
          · exact ⟨rfl, rfl, rfl, rfl, rfl, rfl, rfl, rfl, rfl, rfl, rfl, trivial⟩
        · unfold decD
          have lim : Lim2 R S := ⟨by omega, by omega, fun r hr => ⟨(hRo r hr).1, by have := (hRo r hr).2.1; omega, (hRo r hr).2.2⟩⟩
          have dl := doIns_lim (P := P) (S := S) (x := i.1) (vs := i.2) (c := 100) (fun r hr => (hRo r hr).2.1) (by decide)
          have dok := doIns_ok p ok2 hok fun r hr => (hRo r hr).1
          have he2 : (match doIns P R i.1 i.2 S with
            | (some e, s') => (e, s', n + 1)
            | (none, s') => mrun P code R most ((most - (n + 1)).toNat + 1) s' (n + 1)) = res := by
            rw [← he]
            conv => rhs; unfold mrun
            rw [hi]
            simp only [if_neg c]
            have : (most - n).toNat = (most - (n + 1)).toNat + 1 := by omega
            rw [this]
            all_goals
              cases doIns P R i.1 i.2 S with
              | mk eo s' => cases eo <;> rfl
          tb_start
          refine w_lmakes p ok2 hC.bx hok fun t4 f4 => ?_
          have hD := hC.fr0 f4
          simp only [stK_0, stK_s]
          refine w_lmid p ok2 hD hok lim fun t5 e13 hE => ?_
          generalize hdo : doIns P R i.1 i.2 S = dd at hE he2 dl dok ⊢
          obtain ⟨eo, S'⟩ := dd
          dsimp only at hE he2 dl dok ⊢
          cases eo with
          | none =>
            refine dn_i ⟨(S', n + 1, none), ?_, ?_, hE, dok, (by show 0 ≤ n + 1; omega), (by show n + 1 ≤ most; omega), ?_, ?_, he2⟩
            · show (most - (n + 1)).toNat + 1 < (most - n).toNat + 1
              omega
            · exact ⟨rfl, rfl, rfl, rfl, rfl, rfl, rfl, rfl, rfl, rfl, rfl, trivial⟩
            · show (S'.mem.length : Int) ≤ 1000 + 100 * (n + 1)
              omega
            · show (S'.rows.length : Int) ≤ n + 1
              omega
          | some e =>
            refine dn_i ⟨(S', n + 1, some e), ?_, ?_, hE, dok, (by show 0 ≤ n + 1; omega), (by show n + 1 ≤ most; omega), ?_, ?_, he2⟩
            · show 0 < (most - n).toNat + 1
              omega
            · exact ⟨rfl, rfl, rfl, rfl, rfl, rfl, rfl, rfl, rfl, rfl, rfl, trivial⟩
            · show (S'.mem.length : Int) ≤ 1000 + 100 * (n + 1)
              omega
            · show (S'.rows.length : Int) ≤ n + 1
              omega
end
end P

set_option Elab.async false
set_option linter.all false
set_option maxRecDepth 100000
set_option maxHeartbeats 4000000
/-! the draws of the laws k31 to k64: a state is a list of the script, a count, and a number -/
namespace P
open PySem L2 G
local macro_rules | `(tactic| top_raise0) => `(tactic| first | omega | (unfold mulOk; omega) | ((repeat' (apply And.intro)) <;> first | omega | with_reducible assumption | rfl | (unfold mulOk; omega)))
local macro_rules | `(tactic| k_upd) => `(tactic| first | with_reducible assumption | ((with_reducible refine At.fr0 (by with_reducible assumption) ?_); k_upd) | ((with_reducible refine At.fr1 (by with_reducible assumption) ?_ ?_); (focus k_upd); top_raise) | ((with_reducible refine At.fr2 (by with_reducible assumption) ?_ ?_ ?_); (focus k_upd); (focus top_raise); top_raise))
local macro_rules | `(tactic| k_updF) => `(tactic| first | with_reducible assumption | with_reducible exact At.lt (by with_reducible assumption) | ((with_reducible refine Fr.lt (by with_reducible assumption) ?_); k_updF))
local macro_rules | `(tactic| top_raise) => `(tactic| first | with_reducible assumption | ((with_reducible refine Nw.ne (by with_reducible assumption) ?_); k_updF) | ((with_reducible refine Nw.ne' (by with_reducible assumption) ?_); k_updF) | omega)
local macro_rules | `(tactic| kbo_bools) => `(tactic| simp -dsimp)
local macro_rules | `(tactic| kat_tups) => `(tactic| first | rfl | with_reducible assumption | exact atI_nat rfl)
local macro_rules | `(tactic| tb_rel) => `(tactic| first
   | ((with_reducible refine gd_i ?_ ?_); (focus first | exact ⟨_, lAt_at (by k_upd)⟩ | top_raise0))
   | ((with_reducible apply atK_i); (focus kat_tups))
   | ((with_reducible apply r_ix); (focus k_upd))
   | ((with_reducible apply r_len); (focus k_upd))
   | ((with_reducible apply r_inL); (focus k_upd); (focus (simp; done)))
   | ((with_reducible apply r_chk); (focus k_upd))
   | ((with_reducible refine r_new ?_); intro _ _ _ _ _)
   | ((with_reducible apply r_app); (focus k_upd); (focus top_raise0); intro _ hA _; (try simp only [List.nil_append, List.cons_append] at hA))
   | ((with_reducible apply r_putT); (focus k_upd); (focus top_caught); (focus top_caught); intro _ hA _; (try simp only [Int.reduceToNat, List.set_cons_zero, List.set_cons_succ] at hA))
   | (with_reducible refine ws_for ?_)
   | (with_reducible refine wfor_t1 ?_)
   | (with_reducible refine wfor_t0 ?_)
   | ((with_reducible refine r_eqO ?_ ?_ ?_); (focus (simp [okD, okL]; done)); (focus (simp [dpD, dpL]; done)))
   | ((with_reducible refine r_neO ?_ ?_ ?_); (focus (simp [okD, okL]; done)); (focus (simp [dpD, dpL]; done)))
   | ((with_reducible refine sel_t ?_ ?_); (focus top_raise0))
   | ((with_reducible refine sel_f ?_ ?_); (focus top_raise0)))
local macro_rules | `(tactic| tb_start) => `(tactic| repeat (first | kbo_bools | tb_rel))
local macro_rules | `(tactic| top_caught) => `(tactic| first | omega | (simp; done) | (simp; omega) | (simp; constructor <;> omega))
local macro_rules | `(tactic| top_name) => `(tactic| first | with_reducible assumption | exact Fr.refl | ((with_reducible refine Fr.trans ?_ (by with_reducible assumption)); top_name) | ((with_reducible refine Fr.trans ?_ (Fr.up (by with_reducible assumption))); top_name) | ((with_reducible refine Fr.new ?_ ?_ (by with_reducible assumption)); (focus top_name); allgen_close_more) | ((with_reducible refine Fr.new2 ?_ ?_ (by with_reducible assumption) (by simp)); (focus top_name); allgen_close_more))
local macro_rules | `(tactic| allgen_close_more) => `(tactic| first | with_reducible assumption | ((with_reducible refine Fr.nw (by with_reducible assumption) ?_); allgen_close_more))
local macro_rules | `(tactic| allgen_close2_more) => `(tactic| simp only [fill_some, fill_none, fill_nil, Nat.reduceAdd])
local macro_rules | `(tactic| tb_rel) => `(tactic| first
   | ((with_reducible apply r_fld); (focus k_upd))
   | ((with_reducible apply r_chkO); (focus k_upd); (focus (simp; done)))
   | ((with_reducible apply r_chkD); (focus k_upd))
   | ((with_reducible apply r_dict); (focus k_upd))
   | ((with_reducible apply r_tupleB); (focus k_upd))
   | ((with_reducible apply r_listB); (focus k_upd))
   | ((with_reducible apply r_ix2L); (focus k_upd))
   | ((with_reducible apply onIt_i); (focus k_upd)))
def DS (s : Sto) (j : Nat) : Prop := ∃ (ns : List Int) (k c : Int), 0 ≤ k ∧ At s j (.lst [.lst (ns.map D.int), .int k, .int c])
theorem DS.lt {s : Sto} {j : Nat} (h : DS s j) : j < s.length := by
  obtain ⟨ns, k, c, _, h⟩ := h
  exact h.lt
theorem DS.fr {js : List Nat} {s t : Sto} {j : Nat} (f : Fr js s t) (h : DS s j) (n : j ∉ js) : DS t j := by
  obtain ⟨ns, k, c, h0, h⟩ := h
  exact ⟨ns, k, c, h0, h.fr f n⟩
theorem DS.fr0 {s t : Sto} {j : Nat} (f : Fr [] s t) (h : DS s j) : DS t j := h.fr f (by simp)
theorem atI_ints4 {ns : List Int} {i : Int} (h0 : 0 ≤ i) (h1 : i < ns.length) : ∃ v, atI (ns.map D.int) i = some (.int v) := by
  obtain ⟨n, rfl⟩ := Int.eq_ofNat_of_zero_le h0
  have hn : n < ns.length := by omega
  exact ⟨ns[n], atI_nat (by simp [hn])⟩
section
local macro_rules | `(tactic| tb_rel) => `(tactic| ((with_reducible apply r_put2L); (focus k_upd); (focus top_caught); (focus top_caught); intro _ hA _; (try simp only [Int.reduceToNat, List.set_cons_zero, List.set_cons_succ] at hA)))
variable {s : Sto} {Q : D → Sto → Prop} {E : XP} {u : Lk2 Q E}
theorem w_draw4 {j : Nat} {m : Int} (h : DS s j) (h0 : 0 < m) (h1 : m < 2 ^ 128) (k : ∀ r t, 0 ≤ r → r < m → DS t j → Fr [j] s t → Q (.int r) t) : wp (g_law_draw_3 [.box j, .int m]) s Q E u := by
  obtain ⟨ns, c, a, c0, h⟩ := h
  refine u_law_draw_3 ?_
  unfold c_law_draw_3
  have fin : ∀ t a, Fr [j] s t → At t j (.lst [.lst (ns.map D.int), .int (c + 1), .int a]) → ∀ x, Q (.int (x % m)) t := fun t a f d x => k _ _ (mod_lo h0) (mod_hi h0) ⟨ns, c + 1, a, by omega, d⟩ f
  clear k
  have ct : cutD [D.lst (ns.map D.int), D.int c, D.int a] none (some 2) = [D.lst (ns.map D.int), D.int c] := by rw [cut_to (by decide)]; rfl
  tb_start
  refine r_slL h ?_
  rw [ct]
  tb_start
  by_cases hc : c / 30 < ns.length
  · obtain ⟨v, hv⟩ := atI_ints4 (ns := ns) (i := c / 30) (by omega) hc
    obtain ⟨w, hw⟩ := atI_ints4 (ns := ns) (i := c * 7 % ns.length) (Int.emod_nonneg _ (by omega)) (Int.emod_lt_of_pos _ (by omega))
    have hl : 0 < (ns.length : Int) := by omega
    tb_start
    refine sel_i (fun c1 => ?_) (fun c1 => ?_)
    · by_cases c2 : c % 30 = 0
      · have c3 : 0 < (if v < 0 then -v else v) := by omega
        tb_start
        exact fin _ _ (by top_name) (by k_upd) _
      · by_cases c3 : 0 < a
        · tb_start
          exact fin _ _ (by top_name) (by k_upd) _
        · tb_start
          exact fin _ _ (by top_name) (by k_upd) _
    · tb_start
      exact fin _ _ (by top_name) (by k_upd) _
  · by_cases hl : 0 < (ns.length : Int)
    · obtain ⟨w, hw⟩ := atI_ints4 (ns := ns) (i := c * 7 % ns.length) (Int.emod_nonneg _ (by omega)) (Int.emod_lt_of_pos _ (by omega))
      tb_start
      exact fin _ _ (by top_name) (by k_upd) _
    · tb_start
      exact fin _ _ (by top_name) (by k_upd) _
end
end P

set_option Elab.async false
set_option linter.all false
set_option maxRecDepth 100000
set_option maxHeartbeats 4000000
/-! the draws of the laws k31 to k64: plans, values, boxes, memories, instructions, code -/
namespace P
open PySem L2 G
local macro_rules | `(tactic| top_raise0) => `(tactic| first | omega | (unfold mulOk; omega) | ((repeat' (apply And.intro)) <;> first | omega | with_reducible assumption | rfl | (unfold mulOk; omega)))
local macro_rules | `(tactic| k_upd) => `(tactic| first | with_reducible assumption | ((with_reducible refine At.fr0 (by with_reducible assumption) ?_); k_upd) | ((with_reducible refine At.fr1 (by with_reducible assumption) ?_ ?_); (focus k_upd); top_raise) | ((with_reducible refine At.fr2 (by with_reducible assumption) ?_ ?_ ?_); (focus k_upd); (focus top_raise); top_raise))
local macro_rules | `(tactic| k_updF) => `(tactic| first | with_reducible assumption | with_reducible exact At.lt (by with_reducible assumption) | ((with_reducible refine Fr.lt (by with_reducible assumption) ?_); k_updF))
local macro_rules | `(tactic| top_raise) => `(tactic| first | with_reducible assumption | ((with_reducible refine Nw.ne (by with_reducible assumption) ?_); k_updF) | ((with_reducible refine Nw.ne' (by with_reducible assumption) ?_); k_updF) | omega)
local macro_rules | `(tactic| kbo_bools) => `(tactic| simp -dsimp)
local macro_rules | `(tactic| kat_tups) => `(tactic| first | rfl | with_reducible assumption | exact atI_nat rfl)
local macro_rules | `(tactic| tb_rel) => `(tactic| first
   | ((with_reducible refine gd_i ?_ ?_); (focus first | exact ⟨_, lAt_at (by k_upd)⟩ | top_raise0))
   | ((with_reducible apply atK_i); (focus kat_tups))
   | ((with_reducible apply r_ix); (focus k_upd))
   | ((with_reducible apply r_len); (focus k_upd))
   | ((with_reducible apply r_inL); (focus k_upd); (focus (simp; done)))
   | ((with_reducible apply r_chk); (focus k_upd))
   | ((with_reducible refine r_new ?_); intro _ _ _ _ _)
   | ((with_reducible apply r_app); (focus k_upd); (focus top_raise0); intro _ hA _; (try simp only [List.nil_append, List.cons_append] at hA))
   | ((with_reducible apply r_putT); (focus k_upd); (focus top_caught); (focus top_caught); intro _ hA _; (try simp only [Int.reduceToNat, List.set_cons_zero, List.set_cons_succ] at hA))
   | (with_reducible refine ws_for ?_)
   | (with_reducible refine wfor_t1 ?_)
   | (with_reducible refine wfor_t0 ?_)
   | ((with_reducible refine r_eqO ?_ ?_ ?_); (focus (simp [okD, okL]; done)); (focus (simp [dpD, dpL]; done)))
   | ((with_reducible refine r_neO ?_ ?_ ?_); (focus (simp [okD, okL]; done)); (focus (simp [dpD, dpL]; done)))
   | ((with_reducible refine sel_t ?_ ?_); (focus top_raise0))
   | ((with_reducible refine sel_f ?_ ?_); (focus top_raise0)))
local macro_rules | `(tactic| tb_start) => `(tactic| repeat (first | kbo_bools | tb_rel))
local macro_rules | `(tactic| top_caught) => `(tactic| first | omega | (simp; done) | (simp; omega) | (simp; constructor <;> omega))
local macro_rules | `(tactic| top_name) => `(tactic| first | with_reducible assumption | exact Fr.refl | ((with_reducible refine Fr.trans ?_ (by with_reducible assumption)); top_name) | ((with_reducible refine Fr.trans ?_ (Fr.up (by with_reducible assumption))); top_name) | ((with_reducible refine Fr.new ?_ ?_ (by with_reducible assumption)); (focus top_name); allgen_close_more) | ((with_reducible refine Fr.new2 ?_ ?_ (by with_reducible assumption) (by simp)); (focus top_name); allgen_close_more))
local macro_rules | `(tactic| allgen_close_more) => `(tactic| first | with_reducible assumption | ((with_reducible refine Fr.nw (by with_reducible assumption) ?_); allgen_close_more))
local macro_rules | `(tactic| allgen_close2_more) => `(tactic| simp only [fill_some, fill_none, fill_nil, Nat.reduceAdd])
local macro_rules | `(tactic| tb_rel) => `(tactic| first
   | ((with_reducible apply r_fld); (focus k_upd))
   | ((with_reducible apply r_chkO); (focus k_upd); (focus (simp; done)))
   | ((with_reducible apply r_chkD); (focus k_upd))
   | ((with_reducible apply r_dict); (focus k_upd))
   | ((with_reducible apply r_tupleB); (focus k_upd))
   | ((with_reducible apply r_listB); (focus k_upd))
   | ((with_reducible apply r_ix2L); (focus k_upd))
   | ((with_reducible apply onIt_i); (focus k_upd)))
local macro_rules | `(tactic| top_args) => `(tactic| first | with_reducible assumption | ((with_reducible refine DS.fr0 (by with_reducible assumption) ?_); top_args))
local macro_rules | `(tactic| tb_rel) => `(tactic| ((with_reducible refine w_draw4 ?_ ?_ ?_ ?_); (focus top_args); (focus top_raise0); (focus top_raise0); intro _ _ _ _ _ _))
local macro_rules | `(tactic| k_updF) => `(tactic| with_reducible exact DS.lt (by with_reducible assumption))
local macro_rules | `(tactic| tb_rel) => `(tactic| ((with_reducible apply r_put2L); (focus k_upd); (focus top_caught); (focus top_caught); intro _ hA _; (try simp only [Int.reduceToNat, List.set_cons_zero, List.set_cons_succ] at hA)))
section
variable {s : Sto} {Q : D → Sto → Prop} {E : XP} {u : Lk2 Q E}
theorem w_plan3 {j : Nat} (h : DS s j) (kk : ∀ (P : Plan) t, P.ok → DS t j → Fr [j] s t → Q P.d t) : wp (g_law_plan_3 [.box j]) s Q E u := by
  refine u_law_plan_3 ?_
  unfold c_law_plan_3
  tb_start
  refine atK_int (fun n => 0 ≤ n ∧ n ≤ 20) (by top_caught) (by top_caught) (by top_caught) fun k ⟨k0, k1⟩ => ?_
  have h1 := p2_pos (z := 32 - k)
  have h2 := p2_le32 (a := 32 - k) (by omega)
  have hk := p2_pos (z := k)
  have hk2 : p2 k ≤ 1048576 := p2_le (b := 20) (by omega)
  have hM : p2 (32 - k) * p2 k = 4294967296 := (p2_sub k0 (show k ≤ 32 by omega)).symm
  tb_start
  refine atK_int (fun n => 0 ≤ n ∧ n < p2 (32 - k)) (by top_caught) (by top_caught) (by simp; omega) fun b ⟨b0, b1⟩ => ?_
  have e1 : (b + 1) * p2 k ≤ p2 (32 - k) * p2 k := Int.mul_le_mul_of_nonneg_right (by omega) (by omega)
  have e2 : (b + 1) * p2 k = b * p2 k + p2 k := by rw [Int.add_mul, Int.one_mul]
  have e3 : 0 ≤ b * p2 k := Int.mul_nonneg b0 (by omega)
  tb_start
  rename_i m t2 m0 m1 d2 f2 q t3 q0 q1 d3 f3 g t4 g0 g1 d4 f4
  exact kk ⟨k, b * p2 k, m, q, g⟩ _ ⟨k0, k1, e3, mul_mod, by show b * p2 k + p2 k ≤ _; omega, m0, q0, by show m + q ≤ 7; omega, g0, by show g ≤ 16; omega⟩ (by top_args) (by top_name)
theorem w_value4 {P : Plan} {j : Nat} (h : DS s j) (p : P.ok) (kk : ∀ v t, V32 v → DS t j → Fr [j] s t → Q (.int v) t) : wp (g_law_value_4 [.box j, P.d]) s Q E u := by
  refine u_law_value_4 ?_
  unfold c_law_value_4
  have p' := p
  obtain ⟨k0, k1, b0, bm, b1, m0, s0, ms, g0, g1⟩ := p'
  have hk := p2_pos (z := P.k)
  have hk2 : p2 P.k ≤ 1048576 := p2_le (b := 20) (by omega)
  tb_start
  refine sel_i (fun c => ?_) (fun c => ?_)
  · tb_start
    exact kk _ _ ⟨by omega, by omega⟩ (by top_args) (by top_name)
  tb_start
  refine sel_i (fun c => ?_) (fun c => ?_)
  · tb_start
    exact kk _ _ m32_bd (by top_args) (by top_name)
  tb_start
  refine sel_i (fun c => ?_) (fun c => ?_)
  · tb_start
    exact kk _ _ ⟨by omega, by omega⟩ (by top_args) (by top_name)
  tb_start
  refine sel_i (fun c => ?_) (fun c => ?_)
  · tb_start
    exact kk _ _ ⟨by omega, by omega⟩ (by top_args) (by top_name)
  tb_start
  refine sel_i (fun c => ?_) (fun c => ?_)
  · tb_start
    exact kk _ _ m32_bd (by top_args) (by top_name)
  tb_start
  exact kk _ _ ⟨by omega, by omega⟩ (by top_args) (by top_name)
theorem w_boxes2 {P : Plan} {j : Nat} {n : Int} (h : DS s j) (p : P.ok) (n0 : 0 ≤ n) (n1 : n ≤ 1000) (kk : ∀ (bx : List Int) t, (bx.length : Int) = n → (∀ v ∈ bx, V32 v) → DS t j → Fr [j] s t → Q (.tup (bx.map D.int)) t) : wp (g_law_boxes_2 [.box j, P.d, .int n]) s Q E u := by
  refine u_law_boxes_2 ?_
  unfold c_law_boxes_2
  tb_start
  refine r_lc ?_
  tb_start
  refine wlc_r (fun i ys t => ∃ bx : List Int, ys = bx.map D.int ∧ bx.length = i ∧ (∀ v ∈ bx, V32 v) ∧ DS t j ∧ Fr [j] s t) (by omega) ⟨[], rfl, rfl, fun v h => by simp at h, h, Fr.refl⟩ ?_ ?_
  · rintro i ys t hi ⟨bx, rfl, hl, hv, d, f⟩
    tb_start
    refine w_value4 d p fun v t' v1 d' f' => ?_
    refine dn_i ⟨bx ++ [v], by simp, by simp [hl], fun w hw => ?_, d', f.trans f'⟩
    rcases List.mem_append.mp hw with q | q
    · exact hv w q
    · rw [List.mem_singleton.mp q]; exact v1
  · rintro ys t ⟨bx, rfl, hl, hv, d, f⟩
    exact kk bx t (by omega) hv d f
theorem w_memory {P : Plan} {j : Nat} {b : Bool} (h : DS s j) (p : P.ok) (kk : ∀ (M : Mem) jd t, MemOk M → (M.map (·.1)).Nodup → M.length ≤ 6 → At t jd (.dk (mD M)) → Nw s jd → DS t j → Fr [j] s t → Q (.box jd) t) : wp (g_law_memory [.box j, P.d, .bl b]) s Q E u := by
  refine u_law_memory ?_
  unfold c_law_memory
  have p' := p
  obtain ⟨k0, k1, b0, bm, b1, m0, s0, ms, g0, g1⟩ := p'
  have hk := p2_pos (z := P.k)
  have hk2 : p2 P.k ≤ 1048576 := p2_le (b := 20) (by omega)
  have bg := big_eq
  tb_start
  rename_i t1 jd h1 n1 f1 r t2 r0 r1 d2 f2
  have ne : jd ≠ j := n1.ne' h.lt
  refine wfor_r (fun i (_ : Mem) => [some (.box j), some P.d, some (.bl b), some (.box jd), none, none]) (fun i M t => At t jd (.dk (mD M)) ∧ MemOk M ∧ (M.map (·.1)).Nodup ∧ M.length ≤ i ∧ DS t j ∧ Fr [j] s t) [] ?_ ⟨(show At t2 jd (.dk []) by k_upd), MemOk.nil, by simp, Nat.le_refl _, by top_args, by top_name⟩ ?_ ?_
  · exact ⟨rfl, rfl, rfl, rfl, trivial⟩
  · rintro i M f t hi ⟨hm, mo, nd, ml, d, fr⟩
    have hi : i < 7 := by omega
    have fin : ∀ {t' : Sto} {pl v : Int} {e5 : D}, At t' jd (.dk (putD (mD M) (.inl pl) (.int v))) → DS t' j → Fr [j] s t' → V32 v →
        dn (∃ a' : Mem, Sl [some (.box j), some P.d, some (.bl b), some (.box jd), some e5, some (.int pl)] [some (.box j), some P.d, some (.bl b), some (.box jd), none, none] ∧ At t' jd (.dk (mD a')) ∧ MemOk a' ∧ (a'.map (·.1)).Nodup ∧ a'.length ≤ i + 1 ∧ DS t' j ∧ Fr [j] s t') := fun {t' pl v e5} h1 h2 h3 h4 => by
      rw [put_mD] at h1
      have := putM_len (M := M) (k := pl) (v := v)
      exact dn_i ⟨putM M pl v, ⟨rfl, rfl, rfl, rfl, trivial⟩, h1, mo.put h4, put_nd nd, by omega, h2, h3⟩
    tb_start
    rename_i r2 t3 r20 r21 d3 f3
    have n1' : Nw s jd := n1
    cases b with
    | true =>
      tb_start
      refine w_value4 (by top_args) p fun v t6 v1 d6 f6 => ?_
      tb_start
      refine atK_all (by split <;> omega) (by split <;> simp) fun x hx => ?_
      obtain ⟨v', rfl, v1'⟩ : ∃ v', x = .int v' ∧ V32 v' := by
        simp at hx
        rcases hx with rfl | rfl
        · exact ⟨0, rfl, by decide, by decide⟩
        · exact ⟨v, rfl, v1⟩
      tb_start
      refine r_put2D (j := jd) (by k_upd) rfl (by rw [mD_len]; omega) fun t9 h9 f9 => ?_
      exact fin h9 (DS.fr f9 (by top_args) (by simpa using ne.symm)) (Fr.new (by top_name) n1' f9) v1'
    | false =>
      tb_start
      refine sel_i (fun c => ?_) (fun c => ?_)
      · tb_start
        refine w_value4 (by top_args) p fun w t5 w1 d5 f5 => ?_
        tb_start
        refine w_value4 (by top_args) p fun v t6 v1 d6 f6 => ?_
        tb_start
        refine atK_all (by split <;> omega) (by split <;> simp) fun x hx => ?_
        obtain ⟨v', rfl, v1'⟩ : ∃ v', x = .int v' ∧ V32 v' := by
          simp at hx
          rcases hx with rfl | rfl
          · exact ⟨0, rfl, by decide, by decide⟩
          · exact ⟨v, rfl, v1⟩
        tb_start
        refine r_put2D (j := jd) (by k_upd) rfl (by rw [mD_len]; omega) fun t9 h9 f9 => ?_
        exact fin h9 (DS.fr f9 (by top_args) (by simpa using ne.symm)) (Fr.new (by top_name) n1' f9) v1'
      · tb_start
        refine w_value4 (by top_args) p fun v t6 v1 d6 f6 => ?_
        tb_start
        refine atK_all (by split <;> omega) (by split <;> simp) fun x hx => ?_
        obtain ⟨v', rfl, v1'⟩ : ∃ v', x = .int v' ∧ V32 v' := by
          simp at hx
          rcases hx with rfl | rfl
          · exact ⟨0, rfl, by decide, by decide⟩
          · exact ⟨v, rfl, v1⟩
        tb_start
        refine r_put2D (j := jd) (by k_upd) rfl (by rw [mD_len]; omega) fun t9 h9 f9 => ?_
        exact fin h9 (DS.fr f9 (by top_args) (by simpa using ne.symm)) (Fr.new (by top_name) n1' f9) v1'
  · rintro M f t ⟨hm, mo, nd, ml, d, fr⟩
    tb_start
    exact kk M jd t mo nd (by omega) hm n1 d fr
end
end P

set_option Elab.async false
set_option linter.all false
set_option maxRecDepth 100000
set_option maxHeartbeats 4000000
/-! the draws of the laws k31 to k64: instructions, code -/
namespace P
open PySem L2 G
local macro_rules | `(tactic| top_raise0) => `(tactic| first | omega | (unfold mulOk; omega) | ((repeat' (apply And.intro)) <;> first | omega | with_reducible assumption | rfl | (unfold mulOk; omega)))
local macro_rules | `(tactic| k_upd) => `(tactic| first | with_reducible assumption | ((with_reducible refine At.fr0 (by with_reducible assumption) ?_); k_upd) | ((with_reducible refine At.fr1 (by with_reducible assumption) ?_ ?_); (focus k_upd); top_raise) | ((with_reducible refine At.fr2 (by with_reducible assumption) ?_ ?_ ?_); (focus k_upd); (focus top_raise); top_raise))
local macro_rules | `(tactic| k_updF) => `(tactic| first | with_reducible assumption | with_reducible exact At.lt (by with_reducible assumption) | ((with_reducible refine Fr.lt (by with_reducible assumption) ?_); k_updF))
local macro_rules | `(tactic| top_raise) => `(tactic| first | with_reducible assumption | ((with_reducible refine Nw.ne (by with_reducible assumption) ?_); k_updF) | ((with_reducible refine Nw.ne' (by with_reducible assumption) ?_); k_updF) | omega)
local macro_rules | `(tactic| kbo_bools) => `(tactic| simp -dsimp)
local macro_rules | `(tactic| kat_tups) => `(tactic| first | rfl | with_reducible assumption | exact atI_nat rfl)
local macro_rules | `(tactic| tb_rel) => `(tactic| first
   | ((with_reducible refine gd_i ?_ ?_); (focus first | exact ⟨_, lAt_at (by k_upd)⟩ | top_raise0))
   | ((with_reducible apply atK_i); (focus kat_tups))
   | ((with_reducible apply r_ix); (focus k_upd))
   | ((with_reducible apply r_len); (focus k_upd))
   | ((with_reducible apply r_inL); (focus k_upd); (focus (simp; done)))
   | ((with_reducible apply r_chk); (focus k_upd))
   | ((with_reducible refine r_new ?_); intro _ _ _ _ _)
   | ((with_reducible apply r_app); (focus k_upd); (focus top_raise0); intro _ hA _; (try simp only [List.nil_append, List.cons_append] at hA))
   | ((with_reducible apply r_putT); (focus k_upd); (focus top_caught); (focus top_caught); intro _ hA _; (try simp only [Int.reduceToNat, List.set_cons_zero, List.set_cons_succ] at hA))
   | (with_reducible refine ws_for ?_)
   | (with_reducible refine wfor_t1 ?_)
   | (with_reducible refine wfor_t0 ?_)
   | ((with_reducible refine r_eqO ?_ ?_ ?_); (focus (simp [okD, okL]; done)); (focus (simp [dpD, dpL]; done)))
   | ((with_reducible refine r_neO ?_ ?_ ?_); (focus (simp [okD, okL]; done)); (focus (simp [dpD, dpL]; done)))
   | ((with_reducible refine sel_t ?_ ?_); (focus top_raise0))
   | ((with_reducible refine sel_f ?_ ?_); (focus top_raise0)))
local macro_rules | `(tactic| tb_start) => `(tactic| repeat (first | kbo_bools | tb_rel))
local macro_rules | `(tactic| top_caught) => `(tactic| first | omega | (simp; done) | (simp; omega) | (simp; constructor <;> omega))
local macro_rules | `(tactic| top_name) => `(tactic| first | with_reducible assumption | exact Fr.refl | ((with_reducible refine Fr.trans ?_ (by with_reducible assumption)); top_name) | ((with_reducible refine Fr.trans ?_ (Fr.up (by with_reducible assumption))); top_name) | ((with_reducible refine Fr.new ?_ ?_ (by with_reducible assumption)); (focus top_name); allgen_close_more) | ((with_reducible refine Fr.new2 ?_ ?_ (by with_reducible assumption) (by simp)); (focus top_name); allgen_close_more))
local macro_rules | `(tactic| allgen_close_more) => `(tactic| first | with_reducible assumption | ((with_reducible refine Fr.nw (by with_reducible assumption) ?_); allgen_close_more))
local macro_rules | `(tactic| allgen_close2_more) => `(tactic| simp only [fill_some, fill_none, fill_nil, Nat.reduceAdd])
local macro_rules | `(tactic| tb_rel) => `(tactic| first
   | ((with_reducible apply r_fld); (focus k_upd))
   | ((with_reducible apply r_chkO); (focus k_upd); (focus (simp; done)))
   | ((with_reducible apply r_chkD); (focus k_upd))
   | ((with_reducible apply r_dict); (focus k_upd))
   | ((with_reducible apply r_tupleB); (focus k_upd))
   | ((with_reducible apply r_listB); (focus k_upd))
   | ((with_reducible apply r_ix2L); (focus k_upd))
   | ((with_reducible apply onIt_i); (focus k_upd)))
local macro_rules | `(tactic| top_args) => `(tactic| first | with_reducible assumption | ((with_reducible refine DS.fr0 (by with_reducible assumption) ?_); top_args))
local macro_rules | `(tactic| tb_rel) => `(tactic| ((with_reducible refine w_draw4 ?_ ?_ ?_ ?_); (focus top_args); (focus top_raise0); (focus top_raise0); intro _ _ _ _ _ _))
local macro_rules | `(tactic| k_updF) => `(tactic| with_reducible exact DS.lt (by with_reducible assumption))
local macro_rules | `(tactic| tb_rel) => `(tactic| ((with_reducible apply r_put2L); (focus k_upd); (focus top_caught); (focus top_caught); intro _ hA _; (try simp only [Int.reduceToNat, List.set_cons_zero, List.set_cons_succ] at hA)))
section
variable {s : Sto} {Q : D → Sto → Prop} {E : XP} {u : Lk2 Q E}
theorem w_number3 {j : Nat} (h : DS s j) (kk : ∀ n t, -131072 ≤ n → n < 131072 → DS t j → Fr [j] s t → Q (.int n) t) : wp (g_law_number_3 [.box j]) s Q E u := by
  refine u_law_number_3 ?_
  unfold c_law_number_3
  tb_start
  refine atK_int (fun n => 0 ≤ n ∧ n < 4) (by top_caught) (by top_caught) (by top_caught) fun n ⟨n0, n1⟩ => ?_
  refine r_ix2L (by k_upd) ?_
  refine atK_int (fun n => -131072 ≤ n ∧ n < 131072) (by top_caught) (by top_caught) (by top_caught) fun n ⟨n0, n1⟩ => ?_
  exact kk _ _ n0 n1 (by top_args) (by top_name)
theorem w_target1 {j : Nat} {m : Int} (h : DS s j) (m0 : 0 < m) (m1 : m ≤ 262144) (kk : ∀ n t, 0 ≤ n → n < 262144 → DS t j → Fr [j] s t → Q (.int n) t) : wp (g_law_target_1 [.box j, .int m]) s Q E u := by
  refine u_law_target_1 ?_
  unfold c_law_target_1
  tb_start
  refine atK_int (fun n => 0 ≤ n ∧ n < 262144) (by omega) (by simp; omega) (by top_caught) fun n ⟨n0, n1⟩ => ?_
  exact kk _ _ n0 n1 (by top_args) (by top_name)
theorem w_one1 {P : Plan} {j : Nat} {r m : Int} (h : DS s j) (p : P.ok) (r0 : 0 ≤ r) (r1 : r < 19) (m0 : 0 < m) (m1 : m ≤ 262144) (kk : ∀ x vs t, InsOk x vs → DS t j → Fr [j] s t → Q (insD x vs) t) : wp (g_law_one_1 [.box j, P.d, .int r, .int m]) s Q E u := by
  refine u_law_one_1 ?_
  unfold c_law_one_1
  tb_start
  refine r_lcN ?_
  tb_start
  refine wlc_r (fun i ys t => ∃ bx : List Int, ys = bx.map D.int ∧ bx.length = i ∧ (∀ v ∈ bx, 0 ≤ v ∧ v < 8) ∧ DS t j ∧ Fr [j] s t) (by decide) ⟨[], rfl, rfl, fun v h => by simp at h, h, Fr.refl⟩ ?_ ?_
  · rintro i ys t hi ⟨bx, rfl, hl, hv, d, f⟩
    tb_start
    rename_i v t2 v0 v1 d2 f2
    refine dn_i ⟨bx ++ [v], by simp, by simp [hl], fun w hw => ?_, d2, f.trans f2⟩
    rcases List.mem_append.mp hw with q | q
    · exact hv w q
    · rw [List.mem_singleton.mp q]; exact ⟨v0, v1⟩
  rintro ys t ⟨bx, rfl, hl, hv, d, f⟩
  match bx, hl with
  | [a, b, c], _ =>
  obtain ⟨a0, a1⟩ := hv a (by simp)
  obtain ⟨b0, b1⟩ := hv b (by simp)
  obtain ⟨c0, c1⟩ := hv c (by simp)
  clear hv
  simp only [List.map_cons, List.map_nil]
  tb_start
  refine w_sorts fun t2 j2 h2 n2 f2 => ?_
  tb_start
  have h18 : r = 0 ∨ r = 1 ∨ r = 2 ∨ r = 3 ∨ r = 4 ∨ r = 5 ∨ r = 6 ∨ r = 7 ∨ r = 8 ∨ r = 9 ∨ r = 10 ∨ r = 11 ∨ r = 12 ∨ r = 13 ∨ r = 14 ∨ r = 15 ∨ r = 16 ∨ r = 17 ∨ r = 18 := by omega
  rcases h18 with rfl | rfl | rfl | rfl | rfl | rfl | rfl | rfl | rfl | rfl | rfl | rfl | rfl | rfl | rfl | rfl | rfl | rfl | rfl
  · tb_start
    exact kk "stop" [] _ .stop (by top_args) (by top_name)
  · tb_start
    refine w_value4 (by top_args) p fun v t6 v1 d6 f6 => ?_
    tb_start
    exact kk "put" [_, _] _ (.put a0 a1 v1.1 v1.2) (by top_args) (by top_name)
  · tb_start
    exact kk "add" [_, _, _] _ (.three (by simp) a0 a1 b0 b1 c0 c1) (by top_args) (by top_name)
  · tb_start
    exact kk "sub" [_, _, _] _ (.three (by simp) a0 a1 b0 b1 c0 c1) (by top_args) (by top_name)
  · tb_start
    exact kk "and" [_, _, _] _ (.three (by simp) a0 a1 b0 b1 c0 c1) (by top_args) (by top_name)
  · tb_start
    exact kk "or" [_, _, _] _ (.three (by simp) a0 a1 b0 b1 c0 c1) (by top_args) (by top_name)
  · tb_start
    exact kk "xor" [_, _, _] _ (.three (by simp) a0 a1 b0 b1 c0 c1) (by top_args) (by top_name)
  · tb_start
    exact kk "less" [_, _, _] _ (.three (by simp) a0 a1 b0 b1 c0 c1) (by top_args) (by top_name)
  · tb_start
    exact kk "left" [_, _, _] _ (.three (by simp) a0 a1 b0 b1 c0 c1) (by top_args) (by top_name)
  · tb_start
    exact kk "right" [_, _, _] _ (.three (by simp) a0 a1 b0 b1 c0 c1) (by top_args) (by top_name)
  · tb_start
    refine w_number3 (by top_args) fun n t6 n0 n1 d6 f6 => ?_
    tb_start
    exact kk "more" [_, _, _] _ (.more (by simp) a0 a1 b0 b1 n0 n1) (by top_args) (by top_name)
  · tb_start
    refine w_number3 (by top_args) fun n t6 n0 n1 d6 f6 => ?_
    tb_start
    exact kk "load" [_, _, _] _ (.more (by simp) a0 a1 b0 b1 n0 n1) (by top_args) (by top_name)
  · tb_start
    refine w_number3 (by top_args) fun n t6 n0 n1 d6 f6 => ?_
    tb_start
    exact kk "store" [_, _, _] _ (.more (by simp) a0 a1 b0 b1 n0 n1) (by top_args) (by top_name)
  · tb_start
    refine w_target1 (by top_args) m0 m1 fun n t6 n0 n1 d6 f6 => ?_
    tb_start
    exact kk "jump" [_] _ (.place (by simp) n0 n1) (by top_args) (by top_name)
  · tb_start
    refine w_target1 (by top_args) m0 m1 fun n t6 n0 n1 d6 f6 => ?_
    tb_start
    exact kk "jumpif" [_, _] _ (.jumpif a0 a1 n0 n1) (by top_args) (by top_name)
  · tb_start
    exact kk "through" [_] _ (.through b0 b1) (by top_args) (by top_name)
  · tb_start
    exact kk "fit" [_, _] _ (.two (by simp) a0 a1 b0 b1) (by top_args) (by top_name)
  · tb_start
    exact kk "aim" [_, _] _ (.two (by simp) a0 a1 b0 b1) (by top_args) (by top_name)
  · tb_start
    refine atK_int (fun n => 0 ≤ n ∧ n < 262144) (by split <;> omega) (by split <;> simp) (by top_caught) fun n ⟨n0, n1⟩ => ?_
    tb_start
    exact kk "gate" [_] _ (.place (by simp) n0 n1) (by top_args) (by top_name)
theorem wds_v32 {x : String} {vs : List Int} (h : InsOk x vs) : Vals32 (wds x vs) ∧ (wds x vs).length ≤ 2 ∧ 1 ≤ (wds x vs).length := by
  cases h with
  | stop => simp [wds, Vals32]
  | put a0 a1 v0 v1 => simp [wds, Vals32]; omega
  | three hx a0 a1 b0 b1 c0 c1 => rcases hx with rfl | rfl | rfl | rfl | rfl | rfl | rfl | rfl <;> (simp [wds, kod, Vals32]; omega)
  | more hx a0 a1 b0 b1 n0 n1 => rcases hx with rfl | rfl | rfl <;> (simp [wds, kod, Vals32]; omega)
  | place hx n0 n1 => rcases hx with rfl | rfl <;> (simp [wds, kod, Vals32]; omega)
  | jumpif a0 a1 n0 n1 => simp [wds, kod, Vals32]; omega
  | through b0 b1 => simp [wds, kod, Vals32]; omega
  | two hx a0 a1 b0 b1 => rcases hx with rfl | rfl <;> (simp [wds, kod, Vals32]; omega)
theorem Vals32.app {a b : List Int} (ha : Vals32 a) (hb : Vals32 b) : Vals32 (a ++ b) := fun v h => by
  rcases List.mem_append.mp h with q | q
  · exact ha v q
  · exact hb v q
theorem w_code1 {P : Plan} {j : Nat} {m : Int} (h : DS s j) (p : P.ok) (m0 : 0 ≤ m) (m1 : m ≤ 1000) (kk : ∀ (code : List Int) jc t, Vals32 code → code.length ≤ 2000 → At t jc (.lst (code.map D.int)) → Nw s jc → DS t j → Fr [j] s t → Q (.box jc) t) : wp (g_law_code_1 [.box j, P.d, .int m]) s Q E u := by
  refine u_law_code_1 ?_
  unfold c_law_code_1
  have bg := big_eq
  tb_start
  rename_i t1 jc h1 n1 f1 r t2 r0 r1 d2 f2
  have ne : jc ≠ j := n1.ne' h.lt
  refine wfor_r (fun i (_ : List Int) => [some (.box j), some P.d, some (.int m), some (.box jc), none]) (fun i code t => At t jc (.lst (code.map D.int)) ∧ Vals32 code ∧ code.length ≤ 2 * i ∧ DS t j ∧ Fr [j] s t) [] ?_ ⟨(show At t2 jc (.lst []) by k_upd), fun v h => by simp at h, by simp, by top_args, by top_name⟩ ?_ ?_
  · exact ⟨rfl, rfl, rfl, rfl, trivial⟩
  · rintro i code f t hi ⟨hc, cv, cl, d, fr⟩
    have hi : i < 1001 := by omega
    tb_start
    refine sel_i (fun c => ?_) (fun c => ?_)
    · tb_start
      rename_i v t4 v0 v1 d4 f4
      refine r_app (j := jc) (xs := code.map D.int) (by k_upd) (by simp; omega) fun t5 h5 f5 => ?_
      refine dn_i ⟨code ++ [v], ⟨rfl, rfl, rfl, rfl, trivial⟩, by simpa using h5, cv.app (fun w hw => by rw [List.mem_singleton.mp hw]; exact ⟨v0, v1⟩), by simp; omega, DS.fr f5 (by top_args) (by simpa using ne.symm), Fr.new (by top_name) n1 f5⟩
    · tb_start
      refine w_one1 (by top_args) p (by omega) (by omega) (by omega) (by omega) fun x vs t5 ok d5 f5 => ?_
      tb_start
      refine w_words2 ok fun t6 b6 h6 n6 f6 => ?_
      obtain ⟨w1, w2, w3⟩ := wds_v32 ok
      tb_start
      refine r_ext (j := jc) (xs := code.map D.int) (ys := (wds x vs).map D.int) (by k_upd) (by k_upd) (by simp; omega) fun t7 h7 f7 => ?_
      refine dn_i ⟨code ++ wds x vs, ⟨rfl, rfl, rfl, rfl, trivial⟩, by simpa using h7, cv.app w1, by simp; omega, DS.fr f7 (by top_args) (by simpa using ne.symm), Fr.new (by top_name) n1 f7⟩
  · rintro code f t ⟨hc, cv, cl, d, fr⟩
    have : r ≤ 1000 := by omega
    tb_start
    exact kk code jc t cv (by omega) hc n1 d fr
end
end P

set_option Elab.async false
set_option linter.all false
set_option maxRecDepth 100000
set_option maxHeartbeats 4000000
/-! alike, of the laws k31 to k64 -/
namespace P
open PySem L2 G
local macro_rules | `(tactic| top_raise0) => `(tactic| first | omega | (unfold mulOk; omega) | ((repeat' (apply And.intro)) <;> first | omega | with_reducible assumption | rfl | (unfold mulOk; omega)))
local macro_rules | `(tactic| k_upd) => `(tactic| first | with_reducible assumption | ((with_reducible refine At.fr0 (by with_reducible assumption) ?_); k_upd) | ((with_reducible refine At.fr1 (by with_reducible assumption) ?_ ?_); (focus k_upd); top_raise) | ((with_reducible refine At.fr2 (by with_reducible assumption) ?_ ?_ ?_); (focus k_upd); (focus top_raise); top_raise))
local macro_rules | `(tactic| k_updF) => `(tactic| first | with_reducible assumption | with_reducible exact At.lt (by with_reducible assumption) | ((with_reducible refine Fr.lt (by with_reducible assumption) ?_); k_updF))
local macro_rules | `(tactic| top_raise) => `(tactic| first | with_reducible assumption | ((with_reducible refine Nw.ne (by with_reducible assumption) ?_); k_updF) | ((with_reducible refine Nw.ne' (by with_reducible assumption) ?_); k_updF) | omega)
local macro_rules | `(tactic| kbo_bools) => `(tactic| simp -dsimp)
local macro_rules | `(tactic| kat_tups) => `(tactic| first | rfl | with_reducible assumption | exact atI_nat rfl)
local macro_rules | `(tactic| tb_rel) => `(tactic| first
   | ((with_reducible refine gd_i ?_ ?_); (focus first | exact ⟨_, lAt_at (by k_upd)⟩ | top_raise0))
   | ((with_reducible apply atK_i); (focus kat_tups))
   | ((with_reducible apply r_ix); (focus k_upd))
   | ((with_reducible apply r_len); (focus k_upd))
   | ((with_reducible apply r_inL); (focus k_upd); (focus (simp; done)))
   | ((with_reducible apply r_chk); (focus k_upd))
   | ((with_reducible refine r_new ?_); intro _ _ _ _ _)
   | ((with_reducible apply r_app); (focus k_upd); (focus top_raise0); intro _ hA _; (try simp only [List.nil_append, List.cons_append] at hA))
   | ((with_reducible apply r_putT); (focus k_upd); (focus top_caught); (focus top_caught); intro _ hA _; (try simp only [Int.reduceToNat, List.set_cons_zero, List.set_cons_succ] at hA))
   | (with_reducible refine ws_for ?_)
   | (with_reducible refine wfor_t1 ?_)
   | (with_reducible refine wfor_t0 ?_)
   | ((with_reducible refine r_eqO ?_ ?_ ?_); (focus (simp [okD, okL]; done)); (focus (simp [dpD, dpL]; done)))
   | ((with_reducible refine r_neO ?_ ?_ ?_); (focus (simp [okD, okL]; done)); (focus (simp [dpD, dpL]; done)))
   | ((with_reducible refine sel_t ?_ ?_); (focus top_raise0))
   | ((with_reducible refine sel_f ?_ ?_); (focus top_raise0)))
local macro_rules | `(tactic| tb_start) => `(tactic| repeat (first | kbo_bools | tb_rel))
local macro_rules | `(tactic| top_caught) => `(tactic| first | omega | (simp; done) | (simp; omega) | (simp; constructor <;> omega))
local macro_rules | `(tactic| top_name) => `(tactic| first | with_reducible assumption | exact Fr.refl | ((with_reducible refine Fr.trans ?_ (by with_reducible assumption)); top_name) | ((with_reducible refine Fr.trans ?_ (Fr.up (by with_reducible assumption))); top_name) | ((with_reducible refine Fr.new ?_ ?_ (by with_reducible assumption)); (focus top_name); allgen_close_more) | ((with_reducible refine Fr.new2 ?_ ?_ (by with_reducible assumption) (by simp)); (focus top_name); allgen_close_more))
local macro_rules | `(tactic| allgen_close_more) => `(tactic| first | with_reducible assumption | ((with_reducible refine Fr.nw (by with_reducible assumption) ?_); allgen_close_more))
local macro_rules | `(tactic| allgen_close2_more) => `(tactic| simp only [fill_some, fill_none, fill_nil, Nat.reduceAdd])
local macro_rules | `(tactic| tb_rel) => `(tactic| first
   | ((with_reducible apply r_fld); (focus k_upd))
   | ((with_reducible apply r_chkO); (focus k_upd); (focus (simp; done)))
   | ((with_reducible apply r_chkD); (focus k_upd))
   | ((with_reducible apply r_dict); (focus k_upd))
   | ((with_reducible apply r_tupleB); (focus k_upd))
   | ((with_reducible apply r_listB); (focus k_upd))
   | ((with_reducible apply r_ix2L); (focus k_upd))
   | ((with_reducible apply onIt_i); (focus k_upd)))
def Alk (n : Nat) (s : Sto) (x y : D) : Prop := ∀ (t : Sto) (Q : D → Sto → Prop) (E : XP), Fr [] s t → (∀ t', Fr [] t t' → Q (.bl true) t') → wp (g_rlaw_alike_3 n [x, y]) t Q E
section
variable {s : Sto} {Q : D → Sto → Prop} {E : XP} {u : Lk2 Q E}
theorem w_whole {i : Int} (k : Q (.bl true) s) : wp (g_law_whole_1 [.int i]) s Q E u := by
  refine u_law_whole_1 ?_
  unfold c_law_whole_1
  tb_start
  try exact k
theorem w_whole_s {i : String} (k : Q (.bl false) s) : wp (g_law_whole_1 [.str i]) s Q E u := by
  refine u_law_whole_1 ?_
  unfold c_law_whole_1
  tb_start
  try exact k
theorem al_int {n : Nat} {i : Int} : Alk (n + 1) s (.int i) (.int i) := fun t Q E f k => by
  refine u_law_alike_3 ?_
  unfold c_law_alike_3
  tb_start
  refine w_whole ?_
  tb_start
  exact k t Fr.refl
theorem al_str {n : Nat} {i : String} : Alk (n + 1) s (.str i) (.str i) := fun t Q E f k => by
  refine u_law_alike_3 ?_
  unfold c_law_alike_3
  tb_start
  refine w_whole_s ?_
  tb_start
  exact k t Fr.refl
theorem zipD_inv : ∀ {xs ys : List D} {i : Nat} {d : D}, (zipD xs ys)[i]? = some d → ∃ x y, xs[i]? = some x ∧ ys[i]? = some y ∧ d = .tup [x, y]
  | [], _, i, d, h => by simp [zipD] at h
  | _ :: _, [], i, d, h => by simp [zipD] at h
  | x :: xs, y :: ys, 0, d, h => ⟨x, y, rfl, rfl, by simpa [zipD] using h.symm⟩
  | x :: xs, y :: ys, i + 1, d, h => by
    obtain ⟨x', y', h1, h2, h3⟩ := zipD_inv (xs := xs) (ys := ys) (i := i) (d := d) (by simpa [zipD] using h)
    exact ⟨x', y', by simpa using h1, by simpa using h2, h3⟩
theorem zipD_le : ∀ {xs ys : List D}, (zipD xs ys).length ≤ xs.length
  | [], _ => by simp [zipD]
  | _ :: _, [] => by simp [zipD]
  | x :: xs, y :: ys => by
    have := zipD_le (xs := xs) (ys := ys)
    simp [zipD]
    exact this
/-- what a comprehension over two rows gives: all true -/
theorem all_true {ys : List D} (h : ∀ y ∈ ys, y = .bl true) : ys.all isBl = true ∧ ys.all blOf = true := ⟨List.all_eq_true.mpr fun y hy => by rw [h y hy]; rfl, List.all_eq_true.mpr fun y hy => by rw [h y hy]; rfl⟩
theorem al_tup {n : Nat} {xs ys : List D} (hl : xs.length = ys.length) (hb : xs.length ≤ 100000) (h : ∀ (i : Nat) x y, xs[i]? = some x → ys[i]? = some y → Alk n s x y) : Alk (n + 1) s (.tup xs) (.tup ys) := fun t Q E f k => by
  refine u_law_alike_3 ?_
  unfold c_law_alike_3
  tb_start
  refine r_lc ?_
  tb_start
  have hz := zipD_le (xs := xs) (ys := ys)
  refine wlc_i (zipD xs ys) (fun i bs t' => Fr [] t t' ∧ ∀ y ∈ bs, y = .bl true) rfl (by omega) ⟨Fr.refl, by simp⟩ (fun _ _ _ _ => rfl) ?_ ?_
  · rintro i d bs t' hd ⟨f', hbs⟩
    obtain ⟨x, y, h1, h2, rfl⟩ := zipD_inv hd
    tb_start
    refine h i x y h1 h2 _ _ _ (f.trans f') fun t2 f2 => ?_
    refine dn_i ⟨f'.trans f2, fun z hz => ?_⟩
    rcases List.mem_append.mp hz with q | q
    · exact hbs z q
    · exact List.mem_singleton.mp q
  · rintro bs t' ⟨f', hbs⟩
    obtain ⟨a1, a2⟩ := all_true hbs
    refine gd_i a1 ?_
    rw [a2]
    exact k t' f'
theorem al_lst {n i j : Nat} {xs ys : List D} (hi : At s i (.lst xs)) (hj : At s j (.lst ys)) (hl : xs.length = ys.length) (hb : xs.length ≤ 100000) (h : ∀ (i : Nat) x y, xs[i]? = some x → ys[i]? = some y → Alk n s x y) : Alk (n + 1) s (.box i) (.box j) := fun t Q E f k => by
  refine u_law_alike_3 ?_
  unfold c_law_alike_3
  have hi2 := hi.fr0 f
  have hj2 := hj.fr0 f
  kbo_bools
  refine r_isiLT hj2 ?_
  tb_start
  refine r_isiLL hj2 ?_
  tb_start
  refine r_isiLT hi2 ?_
  tb_start
  refine r_isiLT hj2 ?_
  tb_start
  refine r_isiLL hi2 ?_
  tb_start
  refine r_isiLL hj2 ?_
  tb_start
  refine r_lc ?_
  tb_start
  have hz := zipD_le (xs := xs) (ys := ys)
  have it : ∀ t', Fr [] t t' → Src.items t' (.zip (.box i) (.box j)) = some (zipD xs ys) := fun t' f' => by
    show (match lAt t' i, lAt t' j with | some xs, some ys => some (zipD xs ys) | _, _ => none) = _
    rw [lAt_at (hi2.fr0 f'), lAt_at (hj2.fr0 f')]
  refine gd_i ⟨⟨_, lAt_at hi2⟩, _, lAt_at hj2⟩ ?_
  refine wlc_i (zipD xs ys) (fun i bs t' => Fr [] t t' ∧ ∀ y ∈ bs, y = .bl true) (it t Fr.refl) (by omega) ⟨Fr.refl, by simp⟩ (fun _ _ t' q => it t' q.1) ?_ ?_
  · rintro i d bs t' hd ⟨f', hbs⟩
    obtain ⟨x, y, h1, h2, rfl⟩ := zipD_inv hd
    tb_start
    refine h i x y h1 h2 _ _ _ (f.trans f') fun t2 f2 => ?_
    refine dn_i ⟨f'.trans f2, fun z hz => ?_⟩
    rcases List.mem_append.mp hz with q | q
    · exact hbs z q
    · exact List.mem_singleton.mp q
  · rintro bs t' ⟨f', hbs⟩
    obtain ⟨a1, a2⟩ := all_true hbs
    refine gd_i a1 ?_
    rw [a2]
    exact k t' f'
theorem al_dk {n i j : Nat} {M : Mem} (nd : (M.map (·.1)).Nodup) (hb : M.length ≤ 900000) (hi : At s i (.dk (mD M))) (hj : At s j (.dk (mD M))) : Alk (n + 1) s (.box i) (.box j) := fun t Q E f k => by
  refine u_law_alike_3 ?_
  unfold c_law_alike_3
  have hi2 := hi.fr0 f
  have hj2 := hj.fr0 f
  kbo_bools
  refine r_isiDT hj2 ?_
  tb_start
  refine r_isiDL hj2 ?_
  tb_start
  refine r_isiDD hj2 ?_
  tb_start
  refine r_isiDD hi2 ?_
  tb_start
  refine r_lockA (j := i) rfl hi2 fun t2 h2 f2 => ?_
  refine r_lc ?_
  refine r_keysF rfl h2 ?_
  refine wlc_i ((mD M).map fun kv => keyD kv.1) (fun i' bs t' => Fr [] t2 t' ∧ ∀ y ∈ bs, y = .bl true) (items_dk h2) (by rw [List.length_map, mD_len]; omega) ⟨Fr.refl, by simp⟩ (fun _ _ t' q => items_dk (h2.fr0 q.1)) ?_ ?_
  · rintro i' d bs t' hd ⟨f', hbs⟩
    have hil : i' < M.length := by
      have := (List.getElem?_eq_some_iff.mp hd).1
      simpa [mD] using this
    obtain ⟨q, hq⟩ : ∃ q, M[i']? = some q := ⟨_, List.getElem?_eq_getElem hil⟩
    have hx2 : d = .int q.1 := by
      rw [List.getElem?_map] at hd
      unfold mD at hd
      rw [List.getElem?_map, hq] at hd
      cases hd
      rfl
    subst hx2
    have vq := val_at nd (List.mem_of_getElem? hq)
    tb_start
    refine r_ix2F (k := .inl q.1) (h2.fr0 f') rfl vq ?_
    tb_start
    refine w_whole ?_
    refine dn_i ⟨f', fun z hz => ?_⟩
    rcases List.mem_append.mp hz with w | w
    · exact hbs z w
    · exact List.mem_singleton.mp w
  · rintro bs t' ⟨f', hbs⟩
    obtain ⟨a1, a2⟩ := all_true hbs
    refine ⟨h2.fr0 f', fun t3 h3 f3 => ?_⟩
    have F : Fr [] t t3 := by
      refine ⟨Nat.le_trans f2.1 (Nat.le_trans f'.1 f3.1), fun z hz _ => ?_⟩
      by_cases c : z = i
      · subst c
        exact (show t3[z]? = _ from h3).trans (show t[z]? = _ from hi2).symm
      · have a5 := f2.2 z hz (by simpa using c)
        have a6 := f'.2 z (Nat.lt_of_lt_of_le hz f2.1) (by simp)
        have a7 := f3.2 z (Nat.lt_of_lt_of_le hz (Nat.le_trans f2.1 f'.1)) (by simpa using c)
        rw [a7, a6, a5]
    refine gd_i a1 ?_
    rw [a2]
    tb_start
    refine r_eq2D h3 (hj2.fr0 F) (alike_mD nd) ?_
    exact k t3 F
theorem al_ints {n : Nat} {is : List Int} (hl : is.length ≤ 100000) : Alk (n + 2) s (.tup (is.map D.int)) (.tup (is.map D.int)) := al_tup rfl (by simpa using hl) fun i x y h1 h2 => by
  rw [h1] at h2
  cases h2
  rw [List.getElem?_map] at h1
  obtain ⟨v, _, rfl⟩ := Option.map_eq_some_iff.mp h1
  exact al_int
theorem al_ins {n : Nat} {x : String} {vs : List Int} (hl : vs.length ≤ 90000) : Alk (n + 2) s (insD x vs) (insD x vs) := al_tup rfl (by simp; omega) fun i d e h1 h2 => by
  rw [h1] at h2
  cases h2
  cases i with
  | zero => cases h1; exact al_str
  | succ i =>
    rw [List.getElem?_cons_succ, List.getElem?_map] at h1
    obtain ⟨v, _, rfl⟩ := Option.map_eq_some_iff.mp h1
    exact al_int
/-- the same run, told twice -/
theorem al_res {s0 s1 : Sto} {n : Nat} {e : Ins} {S : St} {m : Int} {d d' : D} (h : ResR s0 s e S m d) (h' : ResR s1 s e S m d') (le : e.2.length ≤ 1000) (lb : S.bx.length ≤ 1000) (lm : S.mem.length ≤ 800000) (nm : (S.mem.map (·.1)).Nodup) (lr : S.rows.length ≤ 100000) (hr : ∀ r ∈ S.rows, r.2.1.length ≤ 1000 ∧ r.2.2.length ≤ 800000 ∧ (r.2.2.map (·.1)).Nodup) : Alk (n + 5) s d d' := by
  obtain ⟨jd, jw, rds, rfl, a1, a2, a3, _⟩ := h
  obtain ⟨jd', jw', rds', rfl, b1, b2, b3, _⟩ := h'
  refine al_tup rfl (by simp) fun i x y h1 h2 => ?_
  match i with
  | 0 =>
    cases h1
    cases h2
    exact al_ins (by omega)
  | 1 =>
    cases h1
    cases h2
    refine al_tup rfl (by simp) fun i x y h1 h2 => ?_
    match i with
    | 0 => cases h1; cases h2; exact al_int
    | 1 => cases h1; cases h2; exact al_ints (by omega)
    | 2 => cases h1; cases h2; exact al_dk nm (by omega) a1 b1
    | i + 3 => simp at h1
  | 2 =>
    cases h1
    cases h2
    refine al_lst a2 b2 (by rw [a3.1, b3.1]) (by rw [a3.1]; omega) fun i x y h1 h2 => ?_
    have hil : i < S.rows.length := by
      have := (List.getElem?_eq_some_iff.mp h1).1
      rw [a3.1] at this
      exact this
    obtain ⟨r, hr1⟩ : ∃ r, S.rows[i]? = some r := ⟨_, List.getElem?_eq_getElem hil⟩
    obtain ⟨r1, r2, r3⟩ := hr r (List.mem_of_getElem? hr1)
    obtain ⟨k, e1, e2, _⟩ := a3.2 _ _ hr1
    obtain ⟨k', e1', e2', _⟩ := b3.2 _ _ hr1
    rw [e1] at h1
    rw [e1'] at h2
    cases h1
    cases h2
    refine al_tup rfl (by simp) fun i x y h1 h2 => ?_
    match i with
    | 0 => cases h1; cases h2; exact al_int
    | 1 => cases h1; cases h2; exact al_ints (by omega)
    | 2 => cases h1; cases h2; exact al_dk r3 (by omega) e2 e2'
    | i + 3 => simp at h1
  | 3 => cases h1; cases h2; exact al_int
  | i + 4 => simp at h1
theorem RowsR.fr0 {s0 s t : Sto} {jd : Nat} {rds : List D} {rows : List (Int × List Int × Mem)} (h : RowsR s0 s jd rds rows) (f : Fr [] s t) : RowsR s0 t jd rds rows := h.fr f (by simp)
theorem ResR.fr0 {s0 s t : Sto} {e : Ins} {S : St} {m : Int} {d : D} (h : ResR s0 s e S m d) (f : Fr [] s t) : ResR s0 t e S m d := by
  obtain ⟨jd, jw, rds, h0, a1, a2, a3, a4⟩ := h
  exact ⟨jd, jw, rds, h0, a1.fr0 f, a2.fr0 f, a3.fr0 f, a4⟩
end
/-! what a run keeps to -/
structure StLim (S : St) (n : Int) : Prop where
  bl : S.bx.length = 8
  ml : (S.mem.length : Int) ≤ 1000 + 100 * n
  mn : (S.mem.map (·.1)).Nodup
  rl : (S.rows.length : Int) ≤ n
  rr : ∀ r ∈ S.rows, r.2.1.length ≤ 1000 ∧ (r.2.2.length : Int) ≤ 1000 + 100 * n ∧ (r.2.2.map (·.1)).Nodup
theorem StLim.up {S : St} {n m : Int} (h : StLim S n) (hm : n ≤ m) : StLim S m := ⟨h.bl, by have := h.ml; omega, h.mn, by have := h.rl; omega, fun r hr => by
  obtain ⟨a, b, c⟩ := h.rr r hr
  exact ⟨a, by omega, c⟩⟩
theorem eff_st {P : Plan} {R : List Repl} {S : St} {x : String} {vs : List Int} {n : Int} (h : StLim S n) (hR : ∀ r ∈ R, ReplOk r ∧ r.2.length ≤ 100 ∧ (r.2.map (·.1)).Nodup) : StLim (eff P R x vs S).2 (n + 1) := by
  have hu := h.up (m := n + 1) (by omega)
  have rows : ∀ k : Int, ∀ r ∈ S.rows ++ [(k, S.bx, S.mem)], r.2.1.length ≤ 1000 ∧ (r.2.2.length : Int) ≤ 1000 + 100 * (n + 1) ∧ (r.2.2.map (·.1)).Nodup := fun k r hr => by
    rcases List.mem_append.mp hr with q | q
    · exact hu.rr r q
    · rw [List.mem_singleton.mp q]
      have := h.bl
      have := h.ml
      exact ⟨by show S.bx.length ≤ 1000; omega, by show (S.mem.length : Int) ≤ _; omega, h.mn⟩
  have rl : ∀ k : Int, ((S.rows ++ [(k, S.bx, S.mem)]).length : Int) ≤ n + 1 := fun k => by
    have := h.rl
    simp
    omega
  unfold eff
  split
  · exact hu
  · split
    · exact hu
    · split
      · exact hu
      · split
        · exact ⟨hu.bl, hu.ml, hu.mn, rl _, rows _⟩
        · rename_i c
          have c3 : S.rows.length < R.length := by omega
          obtain ⟨r, hr⟩ : ∃ r, R[S.rows.length]? = some r := ⟨_, List.getElem?_eq_getElem c3⟩
          obtain ⟨⟨q1, q2, q3⟩, q4, q5⟩ := hR r (List.mem_of_getElem? hr)
          have e : R.getD S.rows.length ([], []) = r := by rw [List.getD_eq_getElem?_getD, hr]; rfl
          rw [e]
          have := mergeM_len (M := S.mem) (N := r.2)
          have := h.ml
          exact ⟨by simp [q1], by show ((mergeM S.mem r.2).length : Int) ≤ _; omega, merge_nd h.mn, rl _, rows _⟩
  · split
    · exact ⟨by simp [h.bl], hu.ml, hu.mn, hu.rl, hu.rr⟩
    · split
      · exact hu
      · exact ⟨by simp [h.bl], hu.ml, hu.mn, hu.rl, hu.rr⟩
  · split
    · split
      · split
        · exact ⟨by simp [h.bl], hu.ml, hu.mn, hu.rl, hu.rr⟩
        · refine ⟨hu.bl, ?_, put_nd h.mn, hu.rl, hu.rr⟩
          have := h.ml
          show ((putM _ _ _).length : Int) ≤ _
          refine Int.le_trans (Int.ofNat_le.mpr putM_len) ?_
          omega
      · exact hu
    · exact ⟨by simp [h.bl], hu.ml, hu.mn, hu.rl, hu.rr⟩
  · exact hu
theorem doIns_st {P : Plan} {R : List Repl} {S : St} {x : String} {vs : List Int} {n : Int} (h : StLim S n) (hR : ∀ r ∈ R, ReplOk r ∧ r.2.length ≤ 100 ∧ (r.2.map (·.1)).Nodup) : StLim (doIns P R x vs S).2 (n + 1) := by
  have q := eff_st (P := P) (x := x) (vs := vs) h hR
  unfold doIns
  dsimp only
  split
  · exact ⟨q.bl, q.ml, q.mn, q.rl, q.rr⟩
  · exact q
theorem eff_end {P : Plan} {R : List Repl} {S : St} {x : String} {vs : List Int} {e : Ins} (h : (eff P R x vs S).1 = some e) : e.2.length ≤ 1 := by
  unfold eff at h
  split at h
  · cases h; simp
  · split at h
    · cases h
    · split at h
      · cases h; simp
      · split at h
        · cases h; simp
        · cases h
  · split at h
    · cases h
    · split at h <;> cases h
  · split at h
    · split at h
      · split at h <;> cases h
      · cases h; simp
    · cases h
  · cases h
theorem mrun_st {P : Plan} {code : List Int} {R : List Repl} {most : Int} (hR : ∀ r ∈ R, ReplOk r ∧ r.2.length ≤ 100 ∧ (r.2.map (·.1)).Nodup) : ∀ (f : Nat) (S : St) (n : Int), n ≤ most → StLim S n → StLim (mrun P code R most f S n).2.1 (mrun P code R most f S n).2.2 ∧ (mrun P code R most f S n).1.2.length ≤ 1 ∧ (mrun P code R most f S n).2.2 ≤ most ∧ n ≤ (mrun P code R most f S n).2.2 := by
  intro f
  induction f with
  | zero => intro S n hn h; exact ⟨h, by simp [mrun], hn, Int.le_refl _⟩
  | succ f ih =>
    intro S n hn h
    unfold mrun
    cases hi : insAt code S.place with
    | none => exact ⟨h, by simp, hn, Int.le_refl _⟩
    | some i =>
      dsimp only
      by_cases c : n = most
      · rw [if_pos c]
        exact ⟨h, by simp, hn, Int.le_refl _⟩
      · rw [if_neg c]
        have q := doIns_st (P := P) (x := i.1) (vs := i.2) h hR
        cases hd : doIns P R i.1 i.2 S with
        | mk eo S' =>
          rw [hd] at q
          cases eo with
          | some e =>
            refine ⟨q, ?_, by show n + 1 ≤ most; omega, by show n ≤ n + 1; omega⟩
            have : (eff P R i.1 i.2 S).1 = some e := by
              have := congrArg Prod.fst hd
              exact this
            exact eff_end this
          | none =>
            obtain ⟨a, b, c', d⟩ := ih S' (n + 1) (by omega) q
            exact ⟨a, b, c', Int.le_trans (by omega : n ≤ n + 1) d⟩
end P

set_option Elab.async false
set_option linter.all false
set_option maxRecDepth 100000
set_option maxHeartbeats 4000000
/-! replies that a law draws -/
namespace P
open PySem L2 G
local macro_rules | `(tactic| top_raise0) => `(tactic| first | omega | (unfold mulOk; omega) | ((repeat' (apply And.intro)) <;> first | omega | with_reducible assumption | rfl | (unfold mulOk; omega)))
local macro_rules | `(tactic| k_upd) => `(tactic| first | with_reducible assumption | ((with_reducible refine At.fr0 (by with_reducible assumption) ?_); k_upd) | ((with_reducible refine At.fr1 (by with_reducible assumption) ?_ ?_); (focus k_upd); top_raise) | ((with_reducible refine At.fr2 (by with_reducible assumption) ?_ ?_ ?_); (focus k_upd); (focus top_raise); top_raise))
local macro_rules | `(tactic| k_updF) => `(tactic| first | with_reducible assumption | with_reducible exact At.lt (by with_reducible assumption) | ((with_reducible refine Fr.lt (by with_reducible assumption) ?_); k_updF))
local macro_rules | `(tactic| top_raise) => `(tactic| first | with_reducible assumption | ((with_reducible refine Nw.ne (by with_reducible assumption) ?_); k_updF) | ((with_reducible refine Nw.ne' (by with_reducible assumption) ?_); k_updF) | omega)
local macro_rules | `(tactic| kbo_bools) => `(tactic| simp -dsimp)
local macro_rules | `(tactic| kat_tups) => `(tactic| first | rfl | with_reducible assumption | exact atI_nat rfl)
local macro_rules | `(tactic| tb_rel) => `(tactic| first
   | ((with_reducible refine gd_i ?_ ?_); (focus first | exact ⟨_, lAt_at (by k_upd)⟩ | top_raise0))
   | ((with_reducible apply atK_i); (focus kat_tups))
   | ((with_reducible apply r_ix); (focus k_upd))
   | ((with_reducible apply r_len); (focus k_upd))
   | ((with_reducible apply r_inL); (focus k_upd); (focus (simp; done)))
   | ((with_reducible apply r_chk); (focus k_upd))
   | ((with_reducible refine r_new ?_); intro _ _ _ _ _)
   | ((with_reducible apply r_app); (focus k_upd); (focus top_raise0); intro _ hA _; (try simp only [List.nil_append, List.cons_append] at hA))
   | ((with_reducible apply r_putT); (focus k_upd); (focus top_caught); (focus top_caught); intro _ hA _; (try simp only [Int.reduceToNat, List.set_cons_zero, List.set_cons_succ] at hA))
   | (with_reducible refine ws_for ?_)
   | (with_reducible refine wfor_t1 ?_)
   | (with_reducible refine wfor_t0 ?_)
   | ((with_reducible refine r_eqO ?_ ?_ ?_); (focus (simp [okD, okL]; done)); (focus (simp [dpD, dpL]; done)))
   | ((with_reducible refine r_neO ?_ ?_ ?_); (focus (simp [okD, okL]; done)); (focus (simp [dpD, dpL]; done)))
   | ((with_reducible refine sel_t ?_ ?_); (focus top_raise0))
   | ((with_reducible refine sel_f ?_ ?_); (focus top_raise0)))
local macro_rules | `(tactic| tb_start) => `(tactic| repeat (first | kbo_bools | tb_rel))
local macro_rules | `(tactic| top_caught) => `(tactic| first | omega | (simp; done) | (simp; omega) | (simp; constructor <;> omega))
local macro_rules | `(tactic| top_name) => `(tactic| first | with_reducible assumption | exact Fr.refl | ((with_reducible refine Fr.trans ?_ (by with_reducible assumption)); top_name) | ((with_reducible refine Fr.trans ?_ (Fr.up (by with_reducible assumption))); top_name) | ((with_reducible refine Fr.new ?_ ?_ (by with_reducible assumption)); (focus top_name); allgen_close_more) | ((with_reducible refine Fr.new2 ?_ ?_ (by with_reducible assumption) (by simp)); (focus top_name); allgen_close_more))
local macro_rules | `(tactic| allgen_close_more) => `(tactic| first | with_reducible assumption | ((with_reducible refine Fr.nw (by with_reducible assumption) ?_); allgen_close_more))
local macro_rules | `(tactic| allgen_close2_more) => `(tactic| simp only [fill_some, fill_none, fill_nil, Nat.reduceAdd])
local macro_rules | `(tactic| tb_rel) => `(tactic| first
   | ((with_reducible apply r_fld); (focus k_upd))
   | ((with_reducible apply r_chkO); (focus k_upd); (focus (simp; done)))
   | ((with_reducible apply r_chkD); (focus k_upd))
   | ((with_reducible apply r_dict); (focus k_upd))
   | ((with_reducible apply r_tupleB); (focus k_upd))
   | ((with_reducible apply r_listB); (focus k_upd))
   | ((with_reducible apply r_ix2L); (focus k_upd))
   | ((with_reducible apply onIt_i); (focus k_upd)))
local macro_rules | `(tactic| top_args) => `(tactic| first | with_reducible assumption | ((with_reducible refine DS.fr0 (by with_reducible assumption) ?_); top_args))
local macro_rules | `(tactic| tb_rel) => `(tactic| ((with_reducible refine w_draw4 ?_ ?_ ?_ ?_); (focus top_args); (focus top_raise0); (focus top_raise0); intro _ _ _ _ _ _))
local macro_rules | `(tactic| k_updF) => `(tactic| with_reducible exact DS.lt (by with_reducible assumption))
local macro_rules | `(tactic| tb_rel) => `(tactic| ((with_reducible apply r_put2L); (focus k_upd); (focus top_caught); (focus top_caught); intro _ hA _; (try simp only [Int.reduceToNat, List.set_cons_zero, List.set_cons_succ] at hA)))
/-- replies drawn so far: each with a dict of its own, new since s1 -/
def RepY (s1 s : Sto) (rds : List D) (R : List Repl) : Prop := rds.length = R.length ∧ ∀ (i : Nat) r, R[i]? = some r → ∃ j, rds[i]? = some (.tup [.tup (r.1.map D.int), .box j]) ∧ At s j (.dk (mD r.2)) ∧ Nw s1 j
theorem RepY.fr {s1 s t : Sto} {ks : List Nat} {rds : List D} {R : List Repl} (h : RepY s1 s rds R) (f : Fr ks s t) (n : ∀ k ∈ ks, ∀ kvs, ¬ At s k (.dk kvs)) : RepY s1 t rds R := ⟨h.1, fun i r e => by
  obtain ⟨j, h1, h2, h3⟩ := h.2 i r e
  exact ⟨j, h1, h2.fr f fun q => n j q _ h2, h3⟩⟩
theorem RepY.rep {s1 s : Sto} {rds : List D} {R : List Repl} (h : RepY s1 s rds R) : RepR s s rds R := ⟨h.1, fun i r e => by
  obtain ⟨j, h1, h2, h3⟩ := h.2 i r e
  exact ⟨j, h1, h2, h2.lt⟩⟩
/-- replies of old still stand -/
theorem RepR.up {s t : Sto} {rds : List D} {R : List Repl} (h : RepR s s rds R) (f : Fr [] s t) : RepR t t rds R := ⟨h.1, fun i r e => by
  obtain ⟨j, h1, h2, h3⟩ := h.2 i r e
  exact ⟨j, h1, h2.fr0 f, f.lt h3⟩⟩
theorem RepR.upd {s t : Sto} {j : Nat} {rds : List D} {R : List Repl} (h : RepR s s rds R) (f : Fr [j] s t) (d : DS s j) : RepR t t rds R := ⟨h.1, fun i r e => by
  obtain ⟨k, h1, h2, h3⟩ := h.2 i r e
  obtain ⟨_, _, _, _, hd⟩ := d
  exact ⟨k, h1, h2.fr1 f (ne_ld hd h2).symm, f.lt h3⟩⟩
theorem RepY.push {s1 s : Sto} {rds : List D} {R : List Repl} {bx : List Int} {M : Mem} {j : Nat} (h : RepY s1 s rds R) (hj : At s j (.dk (mD M))) (n : Nw s1 j) : RepY s1 s (rds ++ [.tup [.tup (bx.map D.int), .box j]]) (R ++ [(bx, M)]) := by
  refine ⟨by simp [h.1], fun i r e => ?_⟩
  by_cases c : i < R.length
  · rw [List.getElem?_append_left c] at e
    obtain ⟨k, h1, h2⟩ := h.2 i r e
    exact ⟨k, by rw [List.getElem?_append_left (by rw [h.1]; exact c)]; exact h1, h2⟩
  · rw [List.getElem?_append_right (by omega)] at e
    have hi : i - R.length = 0 := by
      by_cases z : i - R.length = 0
      · exact z
      · rw [List.getElem?_eq_none (by simp; omega)] at e; cases e
    rw [hi] at e
    cases e
    exact ⟨j, by rw [List.getElem?_append_right (by rw [h.1]; omega), h.1, hi]; rfl, hj, n⟩
theorem ResR.upd {s0 s t : Sto} {e : Ins} {S : St} {m : Int} {d : D} {j : Nat} (h : ResR s0 s e S m d) (f : Fr [j] s t) (q : DS s j) (lt : j < s0.length) : ResR s0 t e S m d := by
  obtain ⟨jd, jw, rds, h0, a1, a2, a3, a4, a5⟩ := h
  obtain ⟨_, _, _, _, hd⟩ := q
  exact ⟨jd, jw, rds, h0, a1.fr1 f (ne_ld hd a1).symm, a2.fr1 f (a5.ne lt).symm, a3.fr f (by simpa using .inr (nd_l hd)), a4, a5⟩
def ReplG (R : List Repl) : Prop := ∀ r ∈ R, ReplOk r ∧ r.2.length ≤ 100 ∧ (r.2.map (·.1)).Nodup
theorem nd_s {s : Sto} {j : Nat} (h : DS s j) : ∀ kvs, ¬ At s j (.dk kvs) := by
  obtain ⟨_, _, _, _, h⟩ := h
  exact nd_l h
section
variable {s : Sto} {Q : List D → Sto → Prop} {E : XP} {u : Lk1 Q}
/-- replies, one by one -/
theorem wlc_repl {n i : Nat} {j : Nat} {P : Plan} {e : En} (hn : n ≤ 1000) (hj : DS s j) (p : P.ok) (e1 : ∀ d, sl (st e i (some d)) 1 = some (.box j)) (e2 : ∀ d, sl (st e i (some d)) 2 = some P.d)
    (k : ∀ R rds t, ReplG R → R.length ≤ n → RepY s t rds R → DS t j → Fr [j] s t → Q rds t) :
    wlc (.rng 0 n) (.v i) tYesD (cTup (aCons (cCall g_law_boxes_2 (aCons (cV 1) (aCons (cV 2) (aCons (cK (.int 7)) (aNil))))) (aCons (cCall g_law_memory (aCons (cV 1) (aCons (cV 2) (aCons (cK (.bl true)) (aNil))))) (aNil)))) e s Q u := by
  refine wlc_r (fun i ys t => ∃ R, ReplG R ∧ R.length ≤ i ∧ RepY s t ys R ∧ DS t j ∧ Fr [j] s t) (by omega) ⟨[], fun r h => by simp at h, by simp, ⟨rfl, fun i r e => by simp at e⟩, hj, Fr.refl⟩ ?_ ?_
  · rintro i' ys t hi ⟨R, g, hl, y, d, f⟩
    have e1 := e1 (.int (0 + (i' : Int)))
    have e2 := e2 (.int (0 + (i' : Int)))
    rw [withT_v]
    unfold stK
    generalize st e i (some (.int (0 + (i' : Int)))) = e' at e1 e2 ⊢
    have v1 : ∀ {k : D → Prop} {u : Lk1 k}, slK e' 1 k u = k (.box j) := fun {k u} => by unfold slK; rw [e1]
    have v2 : ∀ {k : D → Prop} {u : Lk1 k}, slK e' 2 k u = k P.d := fun {k u} => by unfold slK; rw [e2]
    kbo_bools
    rw [v1]
    kbo_bools
    rw [v2]
    kbo_bools
    refine w_boxes2 d p (by decide) (by decide) fun bx t2 bl bv d2 f2 => ?_
    kbo_bools
    rw [v1]
    kbo_bools
    rw [v2]
    kbo_bools
    refine w_memory d2 p fun M jm t3 mo nd ml hm nm d3 f3 => ?_
    tb_start
    refine dn_i ⟨R ++ [(bx, M)], ?_, by simp; omega, ?_, d3, (f.trans f2).trans f3⟩
    · intro r hr
      rcases List.mem_append.mp hr with q | q
      · exact g r q
      · rw [List.mem_singleton.mp q]
        exact ⟨⟨by show bx.length = 7; omega, bv, mo⟩, by show M.length ≤ 100; omega, nd⟩
    · refine ((y.fr f2 (by simpa using nd_s d)).fr f3 (by simpa using nd_s d2)).push hm ?_
      have := f.1
      have := f2.1
      unfold Nw at nm ⊢
      omega
  · rintro ys t ⟨R, g, hl, y, d, f⟩
    exact k R ys t g hl y d f
end
end P

set_option Elab.async false
set_option linter.all false
set_option maxRecDepth 100000
set_option maxHeartbeats 4000000
/-! a run cut, and gone on -/
namespace P
open PySem L2 G
/-- a state behind rows of old -/
def St.behind (rs : List (Int × List Int × Mem)) (S : St) : St := { S with rows := rs ++ S.rows }
theorem eff_behind {P : Plan} {R : List Repl} {rs : List (Int × List Int × Mem)} {x : String} {vs : List Int} {S : St} : eff P R x vs (S.behind rs) = ((eff P (R.drop rs.length) x vs S).1, (eff P (R.drop rs.length) x vs S).2.behind rs) := by
  unfold eff
  split
  · rfl
  · rename_i n
    split
    · rfl
    · split
      · rfl
      · have e : (R.length < (S.behind rs).rows.length + 1) = ((R.drop rs.length).length < S.rows.length + 1) := by
          unfold St.behind
          simp only [List.length_append, List.length_drop, eq_iff_iff]
          omega
        have g : R.getD (S.behind rs).rows.length ([], []) = (R.drop rs.length).getD S.rows.length ([], []) := by
          unfold St.behind
          simp only [List.length_append, List.getD_eq_getElem?_getD, List.getElem?_drop]
        rw [g]
        simp only [e]
        split
        · simp [St.behind]
        · simp [St.behind]
  · split
    · rfl
    · split <;> rfl
  · split
    · have e : geti (S.behind rs).bx = geti S.bx := rfl
      simp only [e]
      split
      · split <;> rfl
      · rfl
    · rfl
  · rfl
theorem nxt_behind {rs : List (Int × List Int × Mem)} {x : String} {vs : List Int} {S : St} : nxt x vs (S.behind rs) = nxt x vs S := by
  unfold nxt
  split <;> rfl
theorem do_behind {P : Plan} {R : List Repl} {rs : List (Int × List Int × Mem)} {x : String} {vs : List Int} {S : St} : doIns P R x vs (S.behind rs) = ((doIns P (R.drop rs.length) x vs S).1, (doIns P (R.drop rs.length) x vs S).2.behind rs) := by
  unfold doIns
  rw [eff_behind]
  dsimp only
  rw [nxt_behind]
  split <;> rfl
/-- the same from a later turn and row on -/
theorem mrun_behind {P : Plan} {code : List Int} {R : List Repl} {rs : List (Int × List Int × Mem)} {most c : Int} : ∀ (f : Nat) (S : St) (n : Int), mrun P code R (most + c) f (S.behind rs) (n + c) = ((mrun P code (R.drop rs.length) most f S n).1, (mrun P code (R.drop rs.length) most f S n).2.1.behind rs, (mrun P code (R.drop rs.length) most f S n).2.2 + c)
  | 0, S, n => rfl
  | f + 1, S, n => by
    unfold mrun
    have e : (S.behind rs).place = S.place := rfl
    rw [e]
    cases insAt code S.place with
    | none => rfl
    | some i =>
      dsimp only
      have e2 : (n + c = most + c) = (n = most) := by simp only [eq_iff_iff]; omega
      simp only [e2]
      split
      · rfl
      · rw [do_behind]
        cases doIns P (R.drop rs.length) i.1 i.2 S with
        | mk eo S' =>
          cases eo with
          | some e => dsimp only; congr 2; omega
          | none =>
            dsimp only
            have := mrun_behind (P := P) (code := code) (R := R) (rs := rs) (most := most) (c := c) f S' (n + 1)
            rw [← this]
            congr 1
            omega
theorem eff_notspent {P : Plan} {R : List Repl} {x : String} {vs : List Int} {S : St} : (eff P R x vs S).1 ≠ some ("spent", []) := by
  unfold eff
  split
  · simp
  · split
    · simp
    · split
      · simp
      · split <;> simp
  · split
    · simp
    · split <;> simp
  · split
    · split
      · split <;> simp
      · simp
    · simp
  · simp
/-- cut: either done ahead of the cut, or it goes on from there -/
theorem mrun_cut {P : Plan} {code : List Int} {R : List Repl} {most cut : Int} (h : cut ≤ most) : ∀ (f g : Nat) (S : St) (n : Int), n ≤ cut → (cut - n).toNat + 1 ≤ f → (most - n).toNat + 1 ≤ g →
    ((mrun P code R cut f S n).1 ≠ ("spent", []) ∧ mrun P code R most g S n = mrun P code R cut f S n ∧ (mrun P code R cut f S n).2.2 ≤ cut) ∨
    ((mrun P code R cut f S n).1 = ("spent", []) ∧ (mrun P code R cut f S n).2.2 = cut ∧ ∃ g', (most - cut).toNat + 1 ≤ g' ∧ mrun P code R most g S n = mrun P code R most g' (mrun P code R cut f S n).2.1 cut ∧ (insAt code (mrun P code R cut f S n).2.1.place).isSome)
  | 0, g, S, n, _, hf, _ => by omega
  | f + 1, 0, S, n, _, _, hg => by omega
  | f + 1, g + 1, S, n, hn, hf, hg => by
    by_cases c : n = cut
    · subst c
      cases hi : insAt code S.place with
      | none =>
        refine .inl ?_
        have e : ∀ m k, mrun P code R m (k + 1) S n = (("lost", []), S, n) := fun m k => by unfold mrun; rw [hi]
        rw [e, e]
        exact ⟨by simp, rfl, Int.le_refl _⟩
      | some i =>
        refine .inr ?_
        have e : mrun P code R n (f + 1) S n = (("spent", []), S, n) := by unfold mrun; rw [hi]; simp
        rw [e]
        exact ⟨rfl, rfl, g + 1, hg, rfl, by rw [hi]; rfl⟩
    · cases hi : insAt code S.place with
      | none =>
        refine .inl ?_
        have e : ∀ m k, mrun P code R m (k + 1) S n = (("lost", []), S, n) := fun m k => by unfold mrun; rw [hi]
        rw [e, e]
        exact ⟨by simp, rfl, hn⟩
      | some i =>
        have e : ∀ m k, n ≠ m → mrun P code R m (k + 1) S n = match doIns P R i.1 i.2 S with
          | (some e, s') => (e, s', n + 1)
          | (none, s') => mrun P code R m k s' (n + 1) := fun m k q => by
            conv => lhs; unfold mrun
            rw [hi]
            simp only [if_neg q]
            all_goals
              cases doIns P R i.1 i.2 S with
              | mk eo s' => cases eo <;> rfl
        rw [e cut f c, e most g (by omega)]
        cases hd : doIns P R i.1 i.2 S with
        | mk eo S' =>
          cases eo with
          | some x =>
            refine .inl ⟨?_, rfl, by show n + 1 ≤ cut; omega⟩
            intro q
            have q : x = ("spent", []) := q
            have : (eff P R i.1 i.2 S).1 = some x := congrArg Prod.fst hd
            rw [q] at this
            exact eff_notspent this
          | none =>
            dsimp only
            exact mrun_cut h f g S' (n + 1) (by omega) (by omega) (by omega)
/-- fuel enough is enough -/
theorem mrun_fuel {P : Plan} {code : List Int} {R : List Repl} {most : Int} : ∀ (f g : Nat) (S : St) (n : Int), n ≤ most → (most - n).toNat + 1 ≤ f → (most - n).toNat + 1 ≤ g → mrun P code R most f S n = mrun P code R most g S n
  | 0, g, S, n, _, hf, _ => by omega
  | f + 1, 0, S, n, _, _, hg => by omega
  | f + 1, g + 1, S, n, hn, hf, hg => by
    unfold mrun
    cases insAt code S.place with
    | none => rfl
    | some i =>
      dsimp only
      split
      · rfl
      · rename_i c
        cases doIns P R i.1 i.2 S with
        | mk eo S' =>
          cases eo with
          | some e => rfl
          | none => exact mrun_fuel f g S' (n + 1) (by omega) (by omega) (by omega)
end P

set_option Elab.async false
set_option linter.all false
set_option maxRecDepth 100000
set_option maxHeartbeats 4000000
/-! what a run's end is compared with; rows alike -/
namespace P
open PySem L2 G
local macro_rules | `(tactic| top_raise0) => `(tactic| first | omega | (unfold mulOk; omega) | ((repeat' (apply And.intro)) <;> first | omega | with_reducible assumption | rfl | (unfold mulOk; omega)))
local macro_rules | `(tactic| k_upd) => `(tactic| first | with_reducible assumption | ((with_reducible refine At.fr0 (by with_reducible assumption) ?_); k_upd) | ((with_reducible refine At.fr1 (by with_reducible assumption) ?_ ?_); (focus k_upd); top_raise) | ((with_reducible refine At.fr2 (by with_reducible assumption) ?_ ?_ ?_); (focus k_upd); (focus top_raise); top_raise))
local macro_rules | `(tactic| k_updF) => `(tactic| first | with_reducible assumption | with_reducible exact At.lt (by with_reducible assumption) | ((with_reducible refine Fr.lt (by with_reducible assumption) ?_); k_updF))
local macro_rules | `(tactic| top_raise) => `(tactic| first | with_reducible assumption | ((with_reducible refine Nw.ne (by with_reducible assumption) ?_); k_updF) | ((with_reducible refine Nw.ne' (by with_reducible assumption) ?_); k_updF) | omega)
local macro_rules | `(tactic| kbo_bools) => `(tactic| simp -dsimp)
local macro_rules | `(tactic| kat_tups) => `(tactic| first | rfl | with_reducible assumption | exact atI_nat rfl)
local macro_rules | `(tactic| tb_rel) => `(tactic| first
   | ((with_reducible refine gd_i ?_ ?_); (focus first | exact ⟨_, lAt_at (by k_upd)⟩ | top_raise0))
   | ((with_reducible apply atK_i); (focus kat_tups))
   | ((with_reducible apply r_ix); (focus k_upd))
   | ((with_reducible apply r_len); (focus k_upd))
   | ((with_reducible apply r_inL); (focus k_upd); (focus (simp; done)))
   | ((with_reducible apply r_chk); (focus k_upd))
   | ((with_reducible refine r_new ?_); intro _ _ _ _ _)
   | ((with_reducible apply r_app); (focus k_upd); (focus top_raise0); intro _ hA _; (try simp only [List.nil_append, List.cons_append] at hA))
   | ((with_reducible apply r_putT); (focus k_upd); (focus top_caught); (focus top_caught); intro _ hA _; (try simp only [Int.reduceToNat, List.set_cons_zero, List.set_cons_succ] at hA))
   | (with_reducible refine ws_for ?_)
   | (with_reducible refine wfor_t1 ?_)
   | (with_reducible refine wfor_t0 ?_)
   | ((with_reducible refine r_eqO ?_ ?_ ?_); (focus (simp [okD, okL]; done)); (focus (simp [dpD, dpL]; done)))
   | ((with_reducible refine r_neO ?_ ?_ ?_); (focus (simp [okD, okL]; done)); (focus (simp [dpD, dpL]; done)))
   | ((with_reducible refine sel_t ?_ ?_); (focus top_raise0))
   | ((with_reducible refine sel_f ?_ ?_); (focus top_raise0)))
local macro_rules | `(tactic| tb_start) => `(tactic| repeat (first | kbo_bools | tb_rel))
local macro_rules | `(tactic| top_caught) => `(tactic| first | omega | (simp; done) | (simp; omega) | (simp; constructor <;> omega))
local macro_rules | `(tactic| top_name) => `(tactic| first | with_reducible assumption | exact Fr.refl | ((with_reducible refine Fr.trans ?_ (by with_reducible assumption)); top_name) | ((with_reducible refine Fr.trans ?_ (Fr.up (by with_reducible assumption))); top_name) | ((with_reducible refine Fr.new ?_ ?_ (by with_reducible assumption)); (focus top_name); allgen_close_more) | ((with_reducible refine Fr.new2 ?_ ?_ (by with_reducible assumption) (by simp)); (focus top_name); allgen_close_more))
local macro_rules | `(tactic| allgen_close_more) => `(tactic| first | with_reducible assumption | ((with_reducible refine Fr.nw (by with_reducible assumption) ?_); allgen_close_more))
local macro_rules | `(tactic| allgen_close2_more) => `(tactic| simp only [fill_some, fill_none, fill_nil, Nat.reduceAdd])
local macro_rules | `(tactic| tb_rel) => `(tactic| first
   | ((with_reducible apply r_fld); (focus k_upd))
   | ((with_reducible apply r_chkO); (focus k_upd); (focus (simp; done)))
   | ((with_reducible apply r_chkD); (focus k_upd))
   | ((with_reducible apply r_dict); (focus k_upd))
   | ((with_reducible apply r_tupleB); (focus k_upd))
   | ((with_reducible apply r_listB); (focus k_upd))
   | ((with_reducible apply r_ix2L); (focus k_upd))
   | ((with_reducible apply onIt_i); (focus k_upd)))
theorem datL_ints {s : Sto} {n : Nat} : ∀ vs : List Int, datL (datD s (n + 1)) (vs.map D.int) = some (vs.map PyData.int)
  | [] => rfl
  | v :: vs => by
    show (match datD s (n + 1) (.int v), datL (datD s (n + 1)) (vs.map D.int) with | some y, some ys => some (y :: ys) | _, _ => none) = _
    rw [datL_ints vs]
    rfl
theorem lay_ints : ∀ vs : List Int, PyData.canLayAll0 (vs.map PyData.int) = true
  | [] => rfl
  | v :: vs => by simp only [List.map_cons, PyData.canLayAll0, lay_ints vs, PyData.canLay0, Bool.and_self]
theorem dep_ints : ∀ vs : List Int, PyData.depthAll (vs.map PyData.int) = 0
  | [] => rfl
  | v :: vs => by simp [PyData.depthAll, dep_ints vs, PyData.depth]
theorem strOk_of (x : String) : PyData.strOk (Str.ofString x) = true := by
  unfold PyData.strOk
  rw [Str.ofString_eq_toList]
  rw [Array.all_eq_true']
  intro n hn
  simp at hn
  obtain ⟨c, _, rfl⟩ := hn
  have := c.valid
  refine decide_eq_true ?_
  have e : c.toNat = c.val.toNat := rfl
  rcases this with h | h
  · have : c.val.toNat < 0xd800 := h
    omega
  · have : c.val.toNat < 0x110000 := h.2
    omega
theorem eqX_ins {s : Sto} {x y : String} {vs : List Int} : eqX s (insD x vs) (.tup [.str y]) = some (decide (x = y ∧ vs = [])) := by
  have h1 : datD s 9 (insD x vs) = some (.tuple (.str x :: vs.map PyData.int)) := by
    show (datL (datD s 8) (.str x :: vs.map D.int)).map PyData.tuple = _
    show (match datD s 8 (.str x), datL (datD s 8) (vs.map D.int) with | some y, some ys => some (y :: ys) | _, _ => none).map PyData.tuple = _
    rw [datL_ints vs]
    rfl
  have h2 : datD s 9 (.tup [.str y]) = some (.tuple [.str y]) := rfl
  have sh : SeqAt.shaped (.tuple (.str x :: vs.map PyData.int)) = true := by simp [SeqAt.shaped, PyData.canLay0, PyData.canLayAll0, lay_ints, PyData.depth, PyData.depthAll, dep_ints, strOk_of]
  have sh2 : SeqAt.shaped (.tuple [.str y]) = true := by simp [SeqAt.shaped, PyData.canLay0, PyData.canLayAll0, PyData.depth, PyData.depthAll, strOk_of]
  unfold eqX
  have h0 : eqS (insD x vs) (.tup [.str y]) = none := rfl
  simp only [h0, h1, h2, sh, sh2, and_self, if_true]
  congr 1
  cases vs with
  | nil =>
    have e : (Str.ofString x == Str.ofString y) = decide (x = y) := by
      by_cases c : x = y
      · subst c; simp
      · rw [decide_eq_false c]
        exact beq_false_of_ne fun q => c (ofString_inj q)
    simp [PyData.eqv, PyData.eqvAll, e]
  | cons v vs => simp [PyData.eqv, PyData.eqvAll]
section
variable {s : Sto} {Q : D → Sto → Prop} {E : XP} {u : Lk2 Q E}
theorem r_neI {x y : String} {vs : List Int} (k : Q (.bl (!decide (x = y ∧ vs = []))) s) : wp (dNe2 (insD x vs) (.tup [.str y])) s Q E u := by
  show wp (dNe (insD x vs) (.tup [.str y])) s Q E
  exact r_ne eqX_ins k
theorem r_eqI {x y : String} {vs : List Int} (k : Q (.bl (decide (x = y ∧ vs = []))) s) : wp (dEq2 (insD x vs) (.tup [.str y])) s Q E u := by
  show wp (dEq (insD x vs) (.tup [.str y])) s Q E
  exact r_eq eqX_ins k
/-- a row of a run -/
def RowD (s : Sto) (r : Int × List Int × Mem) (d : D) : Prop := ∃ k, d = .tup [.int r.1, .tup (r.2.1.map D.int), .box k] ∧ At s k (.dk (mD r.2.2))
theorem RowsR.row {s0 s : Sto} {jd : Nat} {rds : List D} {rows : List (Int × List Int × Mem)} (h : RowsR s0 s jd rds rows) {i : Nat} {d : D} (e : rds[i]? = some d) : ∃ r, rows[i]? = some r ∧ RowD s r d := by
  have hil : i < rows.length := by
    have := (List.getElem?_eq_some_iff.mp e).1
    rw [h.1] at this
    exact this
  obtain ⟨r, hr⟩ : ∃ r, rows[i]? = some r := ⟨_, List.getElem?_eq_getElem hil⟩
  obtain ⟨k, e1, e2, _⟩ := h.2 _ _ hr
  rw [e] at e1
  cases e1
  exact ⟨r, hr, k, rfl, e2⟩
def RowLim (r : Int × List Int × Mem) : Prop := r.2.1.length ≤ 1000 ∧ r.2.2.length ≤ 800000 ∧ (r.2.2.map (·.1)).Nodup
theorem al_row {n : Nat} {r : Int × List Int × Mem} {x y : D} (h : RowD s r x) (h' : RowD s r y) (l : RowLim r) : Alk (n + 3) s x y := by
  obtain ⟨r1, r2, r3⟩ := l
  obtain ⟨k, rfl, e2⟩ := h
  obtain ⟨k', rfl, e2'⟩ := h'
  refine al_tup rfl (by simp) fun i x y h1 h2 => ?_
  match i with
  | 0 => cases h1; cases h2; exact al_int
  | 1 => cases h1; cases h2; exact al_ints (by omega)
  | 2 => cases h1; cases h2; exact al_dk r3 (by omega) e2 e2'
  | i + 3 => simp at h1
theorem al_rows {n i j : Nat} {xs ys : List D} {rows : List (Int × List Int × Mem)} (hi : At s i (.lst xs)) (hj : At s j (.lst ys)) (lx : xs.length = rows.length) (ly : ys.length = rows.length) (hx : ∀ (i : Nat) d, xs[i]? = some d → ∃ r, rows[i]? = some r ∧ RowD s r d) (hy : ∀ (i : Nat) d, ys[i]? = some d → ∃ r, rows[i]? = some r ∧ RowD s r d) (hb : rows.length ≤ 100000) (lim : ∀ r ∈ rows, RowLim r) : Alk (n + 4) s (.box i) (.box j) := by
  refine al_lst hi hj (by rw [lx, ly]) (by omega) fun i x y h1 h2 => ?_
  obtain ⟨r, q1, q2⟩ := hx i x h1
  obtain ⟨r', q1', q2'⟩ := hy i y h2
  rw [q1] at q1'
  cases q1'
  exact al_row q2 q2' (lim r (List.mem_of_getElem? q1))
theorem al_stand {n : Nat} {pl : Int} {bx : List Int} {M : Mem} {i j : Nat} (lb : bx.length ≤ 1000) (nm : (M.map (·.1)).Nodup) (lm : M.length ≤ 800000) (hi : At s i (.dk (mD M))) (hj : At s j (.dk (mD M))) : Alk (n + 3) s (.tup [.int pl, .tup (bx.map D.int), .box i]) (.tup [.int pl, .tup (bx.map D.int), .box j]) := by
  refine al_tup rfl (by simp) fun i x y h1 h2 => ?_
  match i with
  | 0 => cases h1; cases h2; exact al_int
  | 1 => cases h1; cases h2; exact al_ints (by omega)
  | 2 => cases h1; cases h2; exact al_dk nm (by omega) hi hj
  | i + 3 => simp at h1
end
theorem mrun_ok {P : Plan} {code : List Int} {R : List Repl} {most : Int} (p : P.ok) (hc : Vals32 code) (hR : ∀ r ∈ R, ReplOk r) : ∀ (f : Nat) (S : St) (n : Int), StOk S → StOk (mrun P code R most f S n).2.1
  | 0, S, n, h => h
  | f + 1, S, n, h => by
    unfold mrun
    cases hi : insAt code S.place with
    | none => exact h
    | some i =>
      dsimp only
      split
      · exact h
      · have q := doIns_ok (P := P) p h (insAt_ok hc hi) hR
        cases hd : doIns P R i.1 i.2 S with
        | mk eo S' =>
          rw [hd] at q
          cases eo with
          | some e => exact q
          | none => exact mrun_ok p hc hR f S' (n + 1) q
theorem mrun_ge {P : Plan} {code : List Int} {R : List Repl} {most : Int} : ∀ (f : Nat) (S : St) (n : Int), n ≤ (mrun P code R most f S n).2.2
  | 0, S, n => Int.le_refl _
  | f + 1, S, n => by
    unfold mrun
    cases hi : insAt code S.place with
    | none => exact Int.le_refl _
    | some i =>
      dsimp only
      split
      · exact Int.le_refl _
      · cases hd : doIns P R i.1 i.2 S with
        | mk eo S' =>
          cases eo with
          | some e => show n ≤ n + 1; omega
          | none =>
            have := mrun_ge (P := P) (code := code) (R := R) (most := most) f S' (n + 1)
            exact Int.le_trans (by omega) this
/-- a run that can go on takes a turn, or none is left -/
theorem mrun_on {P : Plan} {code : List Int} {R : List Repl} {most : Int} {f : Nat} {S : St} {n : Int} (h : (insAt code S.place).isSome) (e : (mrun P code R most (f + 1) S n).2.2 = n) : (mrun P code R most (f + 1) S n).1 = ("spent", []) := by
  unfold mrun at e ⊢
  cases hi : insAt code S.place with
  | none => rw [hi] at h; cases h
  | some i =>
    rw [hi] at e
    dsimp only at e ⊢
    split
    · rfl
    · rename_i c
      rw [if_neg c] at e
      cases hd : doIns P R i.1 i.2 S with
      | mk eo S' =>
        rw [hd] at e
        cases eo with
        | some x =>
          have e : n + 1 = n := e
          omega
        | none =>
          have := mrun_ge (P := P) (code := code) (R := R) (most := most) f S' (n + 1)
          have e : (mrun P code R most f S' (n + 1)).2.2 = n := e
          omega
end P

set_option Elab.async false
set_option linter.all false
set_option maxRecDepth 100000
set_option maxHeartbeats 4000000
/-! code that never writes the eighth box -/
namespace P
open PySem L2 G
/-- a word that writes none but the first seven boxes -/
def Low (w : Int) : Prop := w / 16777216 % 8 ≤ 6
/-- what an instruction writes -/
def safe (x : String) (vs : List Int) : Prop := match vs with
  | [p, _] => x = "jumpif" ∨ (0 ≤ p ∧ p ≤ 6)
  | [p, _, _] => x = "store" ∨ (0 ≤ p ∧ p ≤ 6)
  | _ => True
theorem low_dec {w : Int} {nx : Option Int} {i : Ins} (w0 : 0 ≤ w) (w1 : w < 4294967296) (h : Low w) (e : dec w nx = some i) : safe i.1 i.2 := by
  unfold Low at h
  unfold dec at e
  by_cases c : 18 < w / 134217728
  · rw [if_pos c] at e; cases e
  have h18 : w / 134217728 = 0 ∨ w / 134217728 = 1 ∨ w / 134217728 = 2 ∨ w / 134217728 = 3 ∨ w / 134217728 = 4 ∨ w / 134217728 = 5 ∨ w / 134217728 = 6 ∨ w / 134217728 = 7 ∨ w / 134217728 = 8 ∨ w / 134217728 = 9 ∨ w / 134217728 = 10 ∨ w / 134217728 = 11 ∨ w / 134217728 = 12 ∨ w / 134217728 = 13 ∨ w / 134217728 = 14 ∨ w / 134217728 = 15 ∨ w / 134217728 = 16 ∨ w / 134217728 = 17 ∨ w / 134217728 = 18 := by omega
  have a0 : 0 ≤ w / 16777216 % 8 := by omega
  generalize w / 16777216 % 8 = a at *
  generalize w / 2097152 % 8 = b at *
  generalize w / 262144 % 8 = cc at *
  generalize w % 262144 = n at *
  rw [if_neg c] at e
  have pull : ∀ {q : Prop} [Decidable q] {y : Ins}, (if q then some y else none) = some i → y = i := fun {q} _ {y} z => by
    by_cases hq : q
    · rw [if_pos hq] at z; cases z; rfl
    · rw [if_neg hq] at z; cases z
  rcases h18 with k | k | k | k | k | k | k | k | k | k | k | k | k | k | k | k | k | k | k
  all_goals
    simp only [k] at e
    first
      | (simp only [rdV, Int.reduceEq, if_true, if_false] at e
         have := pull e
         subst this
         simp [safe]
         done)
      | (simp only [rdV, Int.reduceEq, if_true, if_false] at e
         have := pull e
         subst this
         simp [safe]
         omega)
      | (cases nx with
         | none => simp at e
         | some v =>
           simp only [if_true] at e
           have := pull e
           subst this
           simp [safe]
           omega)
theorem geti_set {l : List Int} {p v : Int} (h0 : 0 ≤ p) (h : p ≤ 6) : geti (l.set p.toNat v) 7 = geti l 7 := by
  unfold geti
  rw [List.getD_eq_getElem?_getD, List.getD_eq_getElem?_getD, List.getElem?_set_ne (by omega)]
theorem eff_7 {P : Plan} {R : List Repl} {S : St} {x : String} {vs : List Int} (sf : safe x vs) (ok : StOk S) (hR : ∀ r ∈ R, ReplOk r) : geti (eff P R x vs S).2.bx 7 = geti S.bx 7 ∧ ∀ r ∈ (eff P R x vs S).2.rows, r ∈ S.rows ∨ r.2.1 = S.bx := by
  have rw1 : ∀ n : Int, ∀ r ∈ S.rows ++ [(n, S.bx, S.mem)], r ∈ S.rows ∨ r.2.1 = S.bx := fun n r hr => by
    rcases List.mem_append.mp hr with q | q
    · exact .inl q
    · rw [List.mem_singleton.mp q]; exact .inr rfl
  unfold safe at sf
  unfold eff
  split
  · exact ⟨rfl, fun r h => .inl h⟩
  · split
    · exact ⟨rfl, fun r h => .inl h⟩
    · split
      · exact ⟨rfl, fun r h => .inl h⟩
      · split
        · exact ⟨rfl, rw1 _⟩
        · rename_i c
          have c3 : S.rows.length < R.length := by omega
          obtain ⟨r, hr⟩ : ∃ r, R[S.rows.length]? = some r := ⟨_, List.getElem?_eq_getElem c3⟩
          obtain ⟨q1, q2, q3⟩ := hR r (List.mem_of_getElem? hr)
          have e : R.getD S.rows.length ([], []) = r := by rw [List.getD_eq_getElem?_getD, hr]; rfl
          rw [e]
          refine ⟨?_, rw1 _⟩
          show geti (r.1 ++ [geti S.bx 7]) 7 = geti S.bx 7
          rw [show geti (r.1 ++ [geti S.bx 7]) 7 = (r.1 ++ [geti S.bx 7]).getD 7 0 from rfl, List.getD_eq_getElem?_getD, List.getElem?_append_right (by omega)]
          simp [q1]
  · rename_i p q
    split
    · rename_i c
      rcases sf with z | ⟨z0, z1⟩
      · rw [z] at c; exact absurd c (by decide)
      · exact ⟨geti_set z0 z1, fun r h => .inl h⟩
    · split
      · exact ⟨rfl, fun r h => .inl h⟩
      · rename_i c
        rcases sf with z | ⟨z0, z1⟩
        · exact absurd z c
        · exact ⟨geti_set z0 z1, fun r h => .inl h⟩
  · rename_i p q r
    split
    · split
      · split
        · rename_i c
          rcases sf with z | ⟨z0, z1⟩
          · rw [z] at c; exact absurd c (by decide)
          · exact ⟨geti_set z0 z1, fun r h => .inl h⟩
        · exact ⟨rfl, fun r h => .inl h⟩
      · exact ⟨rfl, fun r h => .inl h⟩
    · rename_i c
      rcases sf with z | ⟨z0, z1⟩
      · exact absurd (.inr z) c
      · exact ⟨geti_set z0 z1, fun r h => .inl h⟩
  · exact ⟨rfl, fun r h => .inl h⟩
theorem do_7 {P : Plan} {R : List Repl} {S : St} {x : String} {vs : List Int} (sf : safe x vs) (ok : StOk S) (hR : ∀ r ∈ R, ReplOk r) : geti (doIns P R x vs S).2.bx 7 = geti S.bx 7 ∧ ∀ r ∈ (doIns P R x vs S).2.rows, r ∈ S.rows ∨ r.2.1 = S.bx := by
  have q := eff_7 (P := P) sf ok hR
  unfold doIns
  dsimp only
  split
  · exact q
  · exact q
theorem low_at {code : List Int} {p : Int} {i : Ins} (hc : Vals32 code) (hl : ∀ w ∈ code, Low w) (h : insAt code p = some i) : safe i.1 i.2 := by
  unfold insAt at h
  by_cases c : 0 ≤ p ∧ p < code.length
  · rw [if_pos c] at h
    have hn : p.toNat < code.length := by omega
    have e : code.getD p.toNat 0 = code[p.toNat] := by rw [List.getD_eq_getElem?_getD, List.getElem?_eq_getElem hn]; rfl
    rw [e] at h
    have m := List.getElem_mem hn
    exact low_dec (hc _ m).1 (hc _ m).2 (hl _ m) h
  · rw [if_neg c] at h; cases h
theorem mrun_7 {P : Plan} {code : List Int} {R : List Repl} {most z : Int} (p : P.ok) (hc : Vals32 code) (hl : ∀ w ∈ code, Low w) (hR : ∀ r ∈ R, ReplOk r) : ∀ (f : Nat) (S : St) (n : Int), StOk S → geti S.bx 7 = z → (∀ r ∈ S.rows, geti r.2.1 7 = z ∧ r.2.1.length = 8) →
    geti (mrun P code R most f S n).2.1.bx 7 = z ∧ ∀ r ∈ (mrun P code R most f S n).2.1.rows, geti r.2.1 7 = z ∧ r.2.1.length = 8
  | 0, S, n, _, h, h' => ⟨h, h'⟩
  | f + 1, S, n, ok, h, h' => by
    unfold mrun
    cases hi : insAt code S.place with
    | none => exact ⟨h, h'⟩
    | some i =>
      dsimp only
      split
      · exact ⟨h, h'⟩
      · have q := do_7 (P := P) (low_at hc hl hi) ok hR
        have qo := doIns_ok (P := P) p ok (insAt_ok hc hi) hR
        cases hd : doIns P R i.1 i.2 S with
        | mk eo S' =>
          rw [hd] at q qo
          have g1 : geti S'.bx 7 = z := q.1.trans h
          have g2 : ∀ r ∈ S'.rows, geti r.2.1 7 = z ∧ r.2.1.length = 8 := fun r hr => by
            rcases q.2 r hr with w | w
            · exact h' r w
            · rw [w]; exact ⟨h, ok.bl⟩
          cases eo with
          | some e => exact ⟨g1, g2⟩
          | none => exact mrun_7 p hc hl hR f S' (n + 1) qo g1 g2
end P

set_option Elab.async false
set_option linter.all false
set_option maxRecDepth 100000
set_option maxHeartbeats 4000000
/-! straight code, as the law k33 draws it -/
namespace P
open PySem L2 G
local macro_rules | `(tactic| top_raise0) => `(tactic| first | omega | (unfold mulOk; omega) | ((repeat' (apply And.intro)) <;> first | omega | with_reducible assumption | rfl | (unfold mulOk; omega)))
local macro_rules | `(tactic| k_upd) => `(tactic| first | with_reducible assumption | ((with_reducible refine At.fr0 (by with_reducible assumption) ?_); k_upd) | ((with_reducible refine At.fr1 (by with_reducible assumption) ?_ ?_); (focus k_upd); top_raise) | ((with_reducible refine At.fr2 (by with_reducible assumption) ?_ ?_ ?_); (focus k_upd); (focus top_raise); top_raise))
local macro_rules | `(tactic| k_updF) => `(tactic| first | with_reducible assumption | with_reducible exact At.lt (by with_reducible assumption) | ((with_reducible refine Fr.lt (by with_reducible assumption) ?_); k_updF))
local macro_rules | `(tactic| top_raise) => `(tactic| first | with_reducible assumption | ((with_reducible refine Nw.ne (by with_reducible assumption) ?_); k_updF) | ((with_reducible refine Nw.ne' (by with_reducible assumption) ?_); k_updF) | omega)
local macro_rules | `(tactic| kbo_bools) => `(tactic| simp -dsimp)
local macro_rules | `(tactic| kat_tups) => `(tactic| first | rfl | with_reducible assumption | exact atI_nat rfl)
local macro_rules | `(tactic| tb_rel) => `(tactic| first
   | ((with_reducible refine gd_i ?_ ?_); (focus first | exact ⟨_, lAt_at (by k_upd)⟩ | top_raise0))
   | ((with_reducible apply atK_i); (focus kat_tups))
   | ((with_reducible apply r_ix); (focus k_upd))
   | ((with_reducible apply r_len); (focus k_upd))
   | ((with_reducible apply r_inL); (focus k_upd); (focus (simp; done)))
   | ((with_reducible apply r_chk); (focus k_upd))
   | ((with_reducible refine r_new ?_); intro _ _ _ _ _)
   | ((with_reducible apply r_app); (focus k_upd); (focus top_raise0); intro _ hA _; (try simp only [List.nil_append, List.cons_append] at hA))
   | ((with_reducible apply r_putT); (focus k_upd); (focus top_caught); (focus top_caught); intro _ hA _; (try simp only [Int.reduceToNat, List.set_cons_zero, List.set_cons_succ] at hA))
   | (with_reducible refine ws_for ?_)
   | (with_reducible refine wfor_t1 ?_)
   | (with_reducible refine wfor_t0 ?_)
   | ((with_reducible refine r_eqO ?_ ?_ ?_); (focus (simp [okD, okL]; done)); (focus (simp [dpD, dpL]; done)))
   | ((with_reducible refine r_neO ?_ ?_ ?_); (focus (simp [okD, okL]; done)); (focus (simp [dpD, dpL]; done)))
   | ((with_reducible refine sel_t ?_ ?_); (focus top_raise0))
   | ((with_reducible refine sel_f ?_ ?_); (focus top_raise0)))
local macro_rules | `(tactic| tb_start) => `(tactic| repeat (first | kbo_bools | tb_rel))
local macro_rules | `(tactic| top_caught) => `(tactic| first | omega | (simp; done) | (simp; omega) | (simp; constructor <;> omega))
local macro_rules | `(tactic| top_name) => `(tactic| first | with_reducible assumption | exact Fr.refl | ((with_reducible refine Fr.trans ?_ (by with_reducible assumption)); top_name) | ((with_reducible refine Fr.trans ?_ (Fr.up (by with_reducible assumption))); top_name) | ((with_reducible refine Fr.new ?_ ?_ (by with_reducible assumption)); (focus top_name); allgen_close_more) | ((with_reducible refine Fr.new2 ?_ ?_ (by with_reducible assumption) (by simp)); (focus top_name); allgen_close_more))
local macro_rules | `(tactic| allgen_close_more) => `(tactic| first | with_reducible assumption | ((with_reducible refine Fr.nw (by with_reducible assumption) ?_); allgen_close_more))
local macro_rules | `(tactic| allgen_close2_more) => `(tactic| simp only [fill_some, fill_none, fill_nil, Nat.reduceAdd])
local macro_rules | `(tactic| tb_rel) => `(tactic| first
   | ((with_reducible apply r_fld); (focus k_upd))
   | ((with_reducible apply r_chkO); (focus k_upd); (focus (simp; done)))
   | ((with_reducible apply r_chkD); (focus k_upd))
   | ((with_reducible apply r_dict); (focus k_upd))
   | ((with_reducible apply r_tupleB); (focus k_upd))
   | ((with_reducible apply r_listB); (focus k_upd))
   | ((with_reducible apply r_ix2L); (focus k_upd))
   | ((with_reducible apply onIt_i); (focus k_upd)))
local macro_rules | `(tactic| top_args) => `(tactic| first | with_reducible assumption | ((with_reducible refine DS.fr0 (by with_reducible assumption) ?_); top_args))
local macro_rules | `(tactic| tb_rel) => `(tactic| ((with_reducible refine w_draw4 ?_ ?_ ?_ ?_); (focus top_args); (focus top_raise0); (focus top_raise0); intro _ _ _ _ _ _))
local macro_rules | `(tactic| k_updF) => `(tactic| with_reducible exact DS.lt (by with_reducible assumption))
local macro_rules | `(tactic| tb_rel) => `(tactic| ((with_reducible apply r_put2L); (focus k_upd); (focus top_caught); (focus top_caught); intro _ hA _; (try simp only [Int.reduceToNat, List.set_cons_zero, List.set_cons_succ] at hA)))
theorem low_gate {n : Int} (h0 : 0 ≤ n) (h1 : n < 262144) : ∀ w ∈ wds "gate" [n], Low w := by
  intro w hw
  simp [wds, kod] at hw
  subst hw
  unfold Low
  omega
theorem low_fit {a b : Int} (h0 : 0 ≤ a) (h1 : a < 7) (h2 : 0 ≤ b) (h3 : b < 8) : ∀ w ∈ wds "fit" [a, b], Low w := by
  intro w hw
  simp [wds, kod] at hw
  subst hw
  unfold Low
  omega
theorem low_mem {x : String} {a b n : Int} (hx : x = "more" ∨ x = "load" ∨ x = "store") (h0 : 0 ≤ a) (h1 : a < 7) (h2 : 0 ≤ b) (h3 : b < 8) : ∀ w ∈ wds x [a, b, n], Low w := by
  intro w hw
  have m0 := Int.emod_nonneg n (show (262144 : Int) ≠ 0 by decide)
  have m1 := Int.emod_lt_of_pos n (show (0 : Int) < 262144 by decide)
  unfold Low
  rcases hx with rfl | rfl | rfl <;> simp [wds, kod] at hw <;> subst hw <;> omega
def LowC (code : List Int) : Prop := ∀ w ∈ code, Low w
theorem LowC.app {a b : List Int} (h : LowC a) (h' : LowC b) : LowC (a ++ b) := fun w hw => by
  rcases List.mem_append.mp hw with q | q
  · exact h w q
  · exact h' w q
section
variable {s : Sto} {Q : D → Sto → Prop} {E : XP} {u : Lk2 Q E}
theorem w_straight {P : Plan} {j : Nat} (h : DS s j) (p : P.ok) (kk : ∀ (code : List Int) jc t, Vals32 code → code.length ≤ 2000 → LowC code → At t jc (.lst (code.map D.int)) → Nw s jc → DS t j → Fr [j] s t → Q (.box jc) t) : wp (g_law_straight_1 [.box j, P.d]) s Q E u := by
  refine u_law_straight_1 ?_
  obtain ⟨z0, z1, z2, z3, z4, z5, z6, z7, g0, g1⟩ := id p
  unfold c_law_straight_1
  have bg := big_eq
  tb_start
  rename_i t1 jc h1 n1 f1 r t2 r0 r1 d2 f2
  have ne : jc ≠ j := n1.ne' h.lt
  refine wfor_r (fun i (_ : List Int) => [some (.box j), some P.d, some (.box jc), none, none, none, none, none]) (fun i code t => At t jc (.lst (code.map D.int)) ∧ Vals32 code ∧ code.length ≤ 12 * i ∧ LowC code ∧ DS t j ∧ Fr [j] s t) [] ?_ ⟨(show At t2 jc (.lst []) by k_upd), fun v h => by simp at h, by simp, fun v h => by simp at h, by top_args, by top_name⟩ ?_ ?_
  · exact ⟨rfl, rfl, rfl, trivial⟩
  · rintro i code f t hi ⟨hc, cv, cl, lw, d, fr⟩
    have hi : i < 1001 := by omega
    tb_start
    rename_i r3 t3 r30 r31 d3 f3
    refine sel_join (fun e' t => ∃ code', Vals32 code' ∧ code'.length ≤ 12 * i + 2 ∧ LowC code' ∧ At t jc (.lst (code'.map D.int)) ∧ DS t j ∧ Fr [j] s t ∧ Sl e' [some (.box j), some P.d, some (.box jc), none, none, none, none, none]) (fun c => ?_) (fun c => ?_) ?_
    · tb_start
      rename_i n t4 n0 n1' d4 f4
      have ok : InsOk "gate" [n] := .place (.inr rfl) (by omega) (by omega)
      show wp (g_law_words_2 [insD "gate" [n]]) _ _ _
      refine w_words2 ok fun t6 b6 h6 n6 f6 => ?_
      obtain ⟨w1, w2, w3⟩ := wds_v32 ok
      tb_start
      refine r_ext (j := jc) (xs := code.map D.int) (ys := (wds "gate" [n]).map D.int) (by k_upd) (by k_upd) (by simp; omega) fun t7 h7 f7 => ?_
      exact dn_i ⟨code ++ wds "gate" [n], cv.app w1, by simp; omega, lw.app (low_gate (by omega) (by omega)), by simpa using h7, DS.fr f7 (by top_args) (by simpa using ne.symm), Fr.new (by top_name) n1 f7, rfl, rfl, rfl, trivial⟩
    · tb_start
      rename_i n t4 n0 n1' d4 f4
      have ok : InsOk "gate" [n] := .place (.inr rfl) (by omega) (by omega)
      show wp (g_law_words_2 [insD "gate" [n]]) _ _ _
      refine w_words2 ok fun t6 b6 h6 n6 f6 => ?_
      obtain ⟨w1, w2, w3⟩ := wds_v32 ok
      tb_start
      refine r_ext (j := jc) (xs := code.map D.int) (ys := (wds "gate" [n]).map D.int) (by k_upd) (by k_upd) (by simp; omega) fun t7 h7 f7 => ?_
      exact dn_i ⟨code ++ wds "gate" [n], cv.app w1, by simp; omega, lw.app (low_gate (by omega) (by omega)), by simpa using h7, DS.fr f7 (by top_args) (by simpa using ne.symm), Fr.new (by top_name) n1 f7, rfl, rfl, rfl, trivial⟩
    · rintro e' t ⟨code', cv', cl', lw', hc', d', fr', sl⟩
      obtain ⟨f, rfl⟩ := Sl_fill 0 sl
      allgen_close2_more
      tb_start
      rename_i r5 t5 r50 r51 d5 f5
      refine wfor_r (fun i2 (_ : List Int) => [some (.box j), some P.d, some (.box jc), none, none, none, none, none]) (fun i2 code t => At t jc (.lst (code.map D.int)) ∧ Vals32 code ∧ code.length ≤ 12 * i + 2 + 5 * i2 ∧ LowC code ∧ DS t j ∧ Fr [j] s t) code' ⟨rfl, rfl, rfl, trivial⟩ ⟨by k_upd, cv', by omega, lw', by top_args, by top_name⟩ ?_ ?_
      · rintro i2 code2 f t hi2 ⟨hc2, cv2, cl2, lw2, d2, fr2⟩
        have hi2 : i2 < 2 := by omega
        tb_start
        rename_i a t6 a0 a1 d6 f6 b t7 b0 b1 d7 f7 r8 t8 r80 r81 d8 f8
        have okf : InsOk "fit" [a, b] := .two (.inl rfl) (by omega) (by omega) (by omega) (by omega)
        obtain ⟨v1, v2, v3⟩ := wds_v32 okf
        refine atK_all (by omega) (by simpa using r81) fun v hv => ?_
        obtain ⟨x, hx, rfl⟩ : ∃ x : String, (x = "more" ∨ x = "load" ∨ x = "store") ∧ v = .str x := by
          simp at hv
          rcases hv with rfl | rfl | rfl
          · exact ⟨"more", by simp, rfl⟩
          · exact ⟨"store", by simp, rfl⟩
          · exact ⟨"load", by simp, rfl⟩
        tb_start
        show wp (g_law_words_2 [insD "fit" [a, b]]) _ _ _
        refine w_words2 okf fun t9 b9 h9 n9 f9 => ?_
        tb_start
        refine r_mulL (i := b9) (xs := (wds "fit" [a, b]).map D.int) (by k_upd) (by split <;> simp <;> omega) ?_
        obtain ⟨fl, ef, fv, fll, flw⟩ : ∃ fl : List Int, (List.replicate (if x = "more" then (0 : Int) else 1).toNat ((wds "fit" [a, b]).map D.int)).flatten = fl.map D.int ∧ Vals32 fl ∧ fl.length ≤ 2 ∧ LowC fl := by
          by_cases c : x = "more"
          · rw [if_pos c]
            exact ⟨[], rfl, fun v h => by simp at h, by simp, fun v h => by simp at h⟩
          · rw [if_neg c]
            exact ⟨wds "fit" [a, b], by simp, v1, v2, low_fit (by omega) (by omega) (by omega) (by omega)⟩
        rw [ef]
        refine r_new fun t10 j10 h10 n10 f10 => ?_
        tb_start
        have le2 : code2.length ≤ 300000 := by omega
        refine r_ext (j := jc) (xs := code2.map D.int) (ys := fl.map D.int) (by k_upd) (by k_upd) (by simp; omega) fun t11 h11 f11 => ?_
        rw [← List.map_append] at h11
        have d11 : DS t11 j := DS.fr f11 (by top_args) (by simpa using ne.symm)
        have fr11 : Fr [j] s t11 := Fr.new (by top_name) n1 f11
        tb_start
        rename_i c t12 c0 c1 d12 f12
        refine w_number3 (by top_args) fun n t13 n0 n1' d13 f13 => ?_
        tb_start
        refine atK_int (fun z => -131072 ≤ z ∧ z < 131072) (by split <;> decide) (by split <;> simp) (fun y hy => ?_) fun n ⟨n0, n1'⟩ => ?_
        · simp at hy
          rcases hy with rfl | rfl
          · exact ⟨_, rfl, by omega⟩
          · exact ⟨_, rfl, by omega⟩
        tb_start
        have ok : InsOk x [c, a, n] := .more hx (by omega) (by omega) (by omega) (by omega) (by omega) (by omega)
        show wp (g_law_words_2 [insD x [c, a, n]]) _ _ _
        refine w_words2 ok fun t14 b14 h14 n14 f14 => ?_
        obtain ⟨w1, w2, w3⟩ := wds_v32 ok
        tb_start
        refine r_ext (j := jc) (xs := (code2 ++ fl).map D.int) (ys := (wds x [c, a, n]).map D.int) (by k_upd) (by k_upd) (by simp; omega) fun t15 h15 f15 => ?_
        rw [← List.map_append] at h15
        exact dn_i ⟨code2 ++ fl ++ wds x [c, a, n], ⟨rfl, rfl, rfl, trivial⟩, h15, (cv2.app fv).app w1, by simp; omega, (lw2.app flw).app (low_mem hx (by omega) (by omega) (by omega) (by omega)), DS.fr f15 (by top_args) (by simpa using ne.symm), Fr.new (by top_name) n1 f15⟩
      · rintro code2 f t ⟨hc2, cv2, cl2, lw2, d2, fr2⟩
        have : r5.toNat ≤ 2 := by omega
        tb_start
        exact dn_i ⟨code2, ⟨rfl, rfl, rfl, trivial⟩, hc2, cv2, by omega, lw2, d2, fr2⟩
  · rintro code f t ⟨hc, cv, cl, lw, d, fr⟩
    have : r ≤ 1000 := by omega
    tb_start
    rename_i t9 j9 h9 n9 f9
    refine r_addL (xs := code.map D.int) (ys := [(0 : Int)].map D.int) (hc.fr0 f9) (show At t9 j9 (.lst ([(0 : Int)].map D.int)) from h9) (by simp; omega) ?_
    rw [← List.map_append]
    refine r_new fun t10 j10 h10 n10 f10 => ?_
    exact kk (code ++ [0]) j10 t10 (cv.app fun z hz => by rw [List.mem_singleton.mp hz]; exact ⟨by decide, by decide⟩) (by simp; omega) (lw.app fun z hz => by rw [List.mem_singleton.mp hz]; unfold Low; decide) h10 (by allgen_close_more) (by top_args) (by top_name)
end
end P

set_option Elab.async false
set_option linter.all false
set_option maxRecDepth 100000
set_option maxHeartbeats 4000000
/-! the law k33 -/
namespace P
open PySem L2 G
local macro_rules | `(tactic| top_raise0) => `(tactic| first | omega | (unfold mulOk; omega) | ((repeat' (apply And.intro)) <;> first | omega | with_reducible assumption | rfl | (unfold mulOk; omega)))
local macro_rules | `(tactic| k_upd) => `(tactic| first | with_reducible assumption | ((with_reducible refine At.fr0 (by with_reducible assumption) ?_); k_upd) | ((with_reducible refine At.fr1 (by with_reducible assumption) ?_ ?_); (focus k_upd); top_raise) | ((with_reducible refine At.fr2 (by with_reducible assumption) ?_ ?_ ?_); (focus k_upd); (focus top_raise); top_raise))
local macro_rules | `(tactic| k_updF) => `(tactic| first | with_reducible assumption | with_reducible exact At.lt (by with_reducible assumption) | ((with_reducible refine Fr.lt (by with_reducible assumption) ?_); k_updF))
local macro_rules | `(tactic| top_raise) => `(tactic| first | with_reducible assumption | ((with_reducible refine Nw.ne (by with_reducible assumption) ?_); k_updF) | ((with_reducible refine Nw.ne' (by with_reducible assumption) ?_); k_updF) | omega)
local macro_rules | `(tactic| kbo_bools) => `(tactic| simp -dsimp)
local macro_rules | `(tactic| kat_tups) => `(tactic| first | rfl | with_reducible assumption | exact atI_nat rfl)
local macro_rules | `(tactic| tb_rel) => `(tactic| first
   | ((with_reducible refine gd_i ?_ ?_); (focus first | exact ⟨_, lAt_at (by k_upd)⟩ | top_raise0))
   | ((with_reducible apply atK_i); (focus kat_tups))
   | ((with_reducible apply r_ix); (focus k_upd))
   | ((with_reducible apply r_len); (focus k_upd))
   | ((with_reducible apply r_inL); (focus k_upd); (focus (simp; done)))
   | ((with_reducible apply r_chk); (focus k_upd))
   | ((with_reducible refine r_new ?_); intro _ _ _ _ _)
   | ((with_reducible apply r_app); (focus k_upd); (focus top_raise0); intro _ hA _; (try simp only [List.nil_append, List.cons_append] at hA))
   | ((with_reducible apply r_putT); (focus k_upd); (focus top_caught); (focus top_caught); intro _ hA _; (try simp only [Int.reduceToNat, List.set_cons_zero, List.set_cons_succ] at hA))
   | (with_reducible refine ws_for ?_)
   | (with_reducible refine wfor_t1 ?_)
   | (with_reducible refine wfor_t0 ?_)
   | ((with_reducible refine r_eqO ?_ ?_ ?_); (focus (simp [okD, okL]; done)); (focus (simp [dpD, dpL]; done)))
   | ((with_reducible refine r_neO ?_ ?_ ?_); (focus (simp [okD, okL]; done)); (focus (simp [dpD, dpL]; done)))
   | ((with_reducible refine sel_t ?_ ?_); (focus top_raise0))
   | ((with_reducible refine sel_f ?_ ?_); (focus top_raise0)))
local macro_rules | `(tactic| tb_start) => `(tactic| repeat (first | kbo_bools | tb_rel))
local macro_rules | `(tactic| top_caught) => `(tactic| first | omega | (simp; done) | (simp; omega) | (simp; constructor <;> omega))
local macro_rules | `(tactic| top_name) => `(tactic| first | with_reducible assumption | exact Fr.refl | ((with_reducible refine Fr.trans ?_ (by with_reducible assumption)); top_name) | ((with_reducible refine Fr.trans ?_ (Fr.up (by with_reducible assumption))); top_name) | ((with_reducible refine Fr.new ?_ ?_ (by with_reducible assumption)); (focus top_name); allgen_close_more) | ((with_reducible refine Fr.new2 ?_ ?_ (by with_reducible assumption) (by simp)); (focus top_name); allgen_close_more))
local macro_rules | `(tactic| allgen_close_more) => `(tactic| first | with_reducible assumption | ((with_reducible refine Fr.nw (by with_reducible assumption) ?_); allgen_close_more))
local macro_rules | `(tactic| allgen_close2_more) => `(tactic| simp only [fill_some, fill_none, fill_nil, Nat.reduceAdd])
local macro_rules | `(tactic| tb_rel) => `(tactic| first
   | ((with_reducible apply r_fld); (focus k_upd))
   | ((with_reducible apply r_chkO); (focus k_upd); (focus (simp; done)))
   | ((with_reducible apply r_chkD); (focus k_upd))
   | ((with_reducible apply r_dict); (focus k_upd))
   | ((with_reducible apply r_tupleB); (focus k_upd))
   | ((with_reducible apply r_listB); (focus k_upd))
   | ((with_reducible apply r_ix2L); (focus k_upd))
   | ((with_reducible apply onIt_i); (focus k_upd)))
local macro_rules | `(tactic| top_args) => `(tactic| first | with_reducible assumption | ((with_reducible refine DS.fr0 (by with_reducible assumption) ?_); top_args))
local macro_rules | `(tactic| tb_rel) => `(tactic| ((with_reducible refine w_draw4 ?_ ?_ ?_ ?_); (focus top_args); (focus top_raise0); (focus top_raise0); intro _ _ _ _ _ _))
local macro_rules | `(tactic| k_updF) => `(tactic| with_reducible exact DS.lt (by with_reducible assumption))
local macro_rules | `(tactic| tb_rel) => `(tactic| ((with_reducible apply r_put2L); (focus k_upd); (focus top_caught); (focus top_caught); intro _ hA _; (try simp only [Int.reduceToNat, List.set_cons_zero, List.set_cons_succ] at hA)))
theorem al_repl {s : Sto} {n i j : Nat} {xs ys : List D} {R : List Repl} (hi : At s i (.lst xs)) (hj : At s j (.lst ys)) (hx : RepR s s xs R) (hy : RepR s s ys R) (g : ReplG R) (hl : R.length ≤ 1000) : Alk (n + 4) s (.box i) (.box j) := by
  refine al_lst hi hj (by rw [hx.1, hy.1]) (by rw [hx.1]; omega) fun i x y h1 h2 => ?_
  have hil : i < R.length := by
    rw [← hx.1]
    exact (List.getElem?_eq_some_iff.mp h1).1
  have hr := List.getElem?_eq_getElem hil
  obtain ⟨⟨r1, _, _⟩, r2, r3⟩ := g _ (List.getElem_mem hil)
  obtain ⟨k, e1, e2, _⟩ := hx.2 _ _ hr
  obtain ⟨k', e1', e2', _⟩ := hy.2 _ _ hr
  rw [e1] at h1
  rw [e1'] at h2
  cases h1
  cases h2
  refine al_tup rfl (by simp) fun i x y h1 h2 => ?_
  match i with
  | 0 => cases h1; cases h2; exact al_ints (by omega)
  | 1 => cases h1; cases h2; exact al_dk r3 (by omega) e2 e2'
  | i + 2 => simp at h1
theorem at_7 {l : List Int} (h : l.length = 8) : atI (l.map D.int) 7 = some (.int (geti l 7)) := by
  have hn : 7 < l.length := by omega
  refine atI_nat (j := 7) ?_
  rw [List.getElem?_map, List.getElem?_eq_getElem hn]
  unfold geti
  rw [List.getD_eq_getElem?_getD, show (7 : Int).toNat = 7 from rfl, List.getElem?_eq_getElem hn]
  rfl
theorem w_law33 {ns : List Int} (hn : ns.length ≤ 63) : wp (g_law_k33_1 [.lst (ns.map D.int)]) [] (fun d _ => d = .bl true) NX := by
  refine u_law_k33_1 ?_
  unfold c_law_k33_1
  have bg := big_eq
  tb_start
  rename_i t1 j h1 n1 f1
  have d1 : DS t1 j := ⟨ns, 0, 0, by decide, h1⟩
  clear h1
  refine w_plan3 d1 fun P t2 p d2 f2 => ?_
  tb_start
  refine w_straight d2 p fun code jc t3 cv cl lw hc nc d3 f3 => ?_
  tb_start
  refine w_boxes2 (by top_args) p (by decide) (by decide) fun bx t12 bl bv d12 f12 => ?_
  tb_start
  refine w_memory (by top_args) p fun M jm t13 mo nd ml hm nm d13 f13 => ?_
  tb_start
  refine r_lcN ?_
  tb_start
  refine wlc_repl (by omega) (by top_args) p (fun _ => rfl) (fun _ => rfl) fun R rds t14 g hl y d14 f14 => ?_
  tb_start
  rename_i t15 jr h15 n15 f15 r17 t17 q170 q171 d17 f17 r18 t18 q180 q181 d18 f18
  refine atK_int (fun n => 0 ≤ n ∧ n ≤ 1000) (by split <;> decide) (by split <;> simp) (by top_caught) fun most ⟨m0, m1⟩ => ?_
  have d15 : DS t15 j := by top_args
  have rep18 : RepR t18 t18 rds R := (((y.rep.up f15).upd f17 d15).upd f18 d17)
  have hc18 : At t18 jc (.lst (code.map D.int)) := by k_upd
  have hm18 : At t18 jm (.dk (mD M)) := by k_upd
  have hr18 : At t18 jr (.lst rds) := by k_upd
  have ok : StOk ⟨0, bx, M, []⟩ := ⟨by show bx.length = 8; omega, bv, mo⟩
  tb_start
  refine w_lrun (R := R) p hc18 cv hr18 hm18 rep18 ok m0 m1 (by omega) g fun t19 due res1 f19 => ?_
  have hc19 := hc18.fr0 f19
  have hm19 := hm18.fr0 f19
  have hr19 := hr18.fr0 f19
  have rep19 := rep18.up f19
  tb_start
  refine r_lcN ?_
  tb_start
  have it : ∀ t', Fr [] t19 t' → Src.items t' (.seq (.box jr)) = some rds := fun t' f' => by
    show itemsOf t' (.box jr) = some rds
    exact lAt_at (hr19.fr0 f')
  refine wlc_i rds (fun i ys t => Fr [] t19 t ∧ RepY t19 t ys (R.take i)) (it _ Fr.refl) (by rw [rep19.1]; omega) ⟨Fr.refl, ⟨rfl, fun i r e => by simp at e⟩⟩ (fun _ _ t' q => it t' q.1) ?_ ?_
  · rintro i d ys t hd ⟨ft, hy⟩
    have hi : i < R.length := by
      rw [← rep19.1]
      exact (List.getElem?_eq_some_iff.mp hd).1
    obtain ⟨jq, e1, e2, e3⟩ := rep19.2 i _ (List.getElem?_eq_getElem hi)
    rw [hd] at e1
    cases e1
    have e4 := e2.fr0 ft
    tb_start
    rename_i t21 j21 h21 n21 f21
    refine dn_i ⟨ft.trans f21, ?_⟩
    have q := (hy.fr f21 (by simp)).push (bx := R[i].1) (M := R[i].2) h21 (ft.nw n21)
    rw [List.take_succ_eq_append_getElem hi]
    exact q
  · rintro hds t20 ⟨f20, hy⟩
    have eR : R.take rds.length = R := List.take_of_length_le (by rw [rep19.1]; exact Nat.le_refl _)
    rw [eR] at hy
    tb_start
    rename_i t21 jh h21 n21 f21 t22 jk h22 n22 f22
    have F22 : Fr [] t19 t22 := (f20.trans f21).trans f22
    have hc22 := hc19.fr0 F22
    have hm22 := hm19.fr0 F22
    have hr22 := hr19.fr0 F22
    have hh22 : At t22 jh (.lst hds) := h21.fr0 f22
    have rep22 := rep19.up F22
    have reph22 : RepR t22 t22 hds R := (hy.rep.up f21).up f22
    have gR : ∀ r ∈ R, ReplOk r ∧ r.2.length ≤ 100 := fun r h => ⟨(g r h).1, (g r h).2.1⟩
    refine w_run (R := R) p hc22 cv hh22 hm22 reph22 ok m0 m1 (by omega) gR fun t23 found res2 f23 => ?_
    obtain ⟨st, el, nm', nn'⟩ := mrun_st (P := P) (code := code) (R := R) (most := most) g (most.toNat + 1) ⟨0, bx, M, []⟩ 0 m0 ⟨by show bx.length = 8; omega, by show (M.length : Int) ≤ _; omega, nd, by simp, fun r h => by simp at h⟩
    obtain ⟨b7, r7⟩ := mrun_7 (P := P) (code := code) (R := R) (most := most) p cv lw (fun r h => (g r h).1) (most.toNat + 1) ⟨0, bx, M, []⟩ 0 ok rfl (fun r h => by simp at h)
    have okS := mrun_ok (P := P) (code := code) (R := R) (most := most) p cv (fun r h => (g r h).1) (most.toNat + 1) _ 0 ok
    have res1' := res1.fr0 (F22.trans f23)
    have res1a := res1.fr0 F22
    clear res1
    generalize hres : mrun P code R most (most.toNat + 1) ⟨0, bx, M, []⟩ 0 = res at res1' res1a res2 st el nm' nn' b7 r7 okS
    obtain ⟨e, S, n⟩ := res
    dsimp only at res1' res1a res2 st el nm' nn' b7 r7 okS
    have sb := st.bl
    have sm := st.ml
    have sr := st.rl
    have srr : ∀ r ∈ S.rows, RowLim r := fun r hr => by
      obtain ⟨a, b, c⟩ := st.rr r hr
      exact ⟨a, by omega, c⟩
    have AL : Alk 6 t23 found due := al_res (n := 1) res2 res1' (by omega) (by omega) (by omega) st.mn (by omega) srr
    have AR : Alk 6 t23 (.box jh) (.box jr) := al_repl (n := 2) (hh22.fr0 f23) (hr22.fr0 f23) (reph22.up f23) (rep22.up f23) g (by omega)
    tb_start
    refine AL t23 _ _ Fr.refl fun t24 f24 => ?_
    tb_start
    refine AR t24 _ _ f24 fun t25 f25 => ?_
    tb_start
    have F25 : Fr [] t22 t25 := (f23.trans f24).trans f25
    refine r_ne2D (hm22.fr0 F25) (h22.fr0 F25) (alike_mD nd) ?_
    tb_start
    obtain ⟨jd, jw, rdw, rfl, a1, a2, a3, na1, na2⟩ := res2
    tb_start
    have x7 : atI (S.bx.map D.int) 7 = some (.int (geti S.bx 7)) := (okS.at (i := 7) (by decide) (by decide)).1
    have y7 : atI (bx.map D.int) 7 = some (.int (geti bx 7)) := (ok.at (i := 7) (by decide) (by decide)).1
    rw [b7] at x7
    refine atK_i x7 ?_
    tb_start
    refine r_lc ?_
    tb_start
    have lrw : rdw.length ≤ 1000 := by rw [a3.1]; omega
    have F3 : Fr [] t23 t25 := f24.trans f25
    have itw : ∀ t', Fr [] t25 t' → Src.items t' (.seq (.box jw)) = some rdw := fun t' f' => by
      show itemsOf t' (.box jw) = some rdw
      exact lAt_at ((a2.fr0 F3).fr0 f')
    refine gd_i ⟨_, lAt_at (a2.fr0 F3)⟩ ?_
    refine wlc_i rdw (fun i bs t' => Fr [] t25 t' ∧ ∀ y ∈ bs, y = .bl true) (itw _ Fr.refl) (by omega) ⟨Fr.refl, by simp⟩ (fun _ _ t' q => itw t' q.1) ?_ ?_
    · rintro i d bs t' hd ⟨f', hbs⟩
      obtain ⟨r, hr, kq, rfl, kk⟩ := a3.row hd
      obtain ⟨r71, r72⟩ := r7 r (List.mem_of_getElem? hr)
      have z7 := at_7 r72
      rw [r71] at z7
      tb_start
      refine dn_i ⟨f', fun z hz => ?_⟩
      rcases List.mem_append.mp hz with q | q
      · exact hbs z q
      · simpa using List.mem_singleton.mp q
    · rintro bs t26 ⟨f26, hbs⟩
      obtain ⟨q1, q2⟩ := all_true hbs
      refine gd_i q1 ?_
      rw [q2]
      tb_start
      have F26 : Fr [] t22 t26 := F25.trans f26
      have a1' := (a1.fr0 F3).fr0 f26
      refine r_clrD a1' fun t27 h27 f27 => ?_
      have F27 : Fr [] t22 t27 := F26.new na1 f27
      have res1b := res1a
      obtain ⟨jd', jw', rdw', rfl, c1, c2, c3, nc1, nc2⟩ := res1b
      have nwd : jw ≠ jd := ne_ld a2 a1
      have hw27 : At t27 jw (.lst rdw) := ((a2.fr0 F3).fr0 f26).fr1 f27 nwd
      have rows27 : ∀ (i' : Nat) d, rdw[i']? = some d → ∃ r, S.rows[i']? = some r ∧ RowD t27 r d := fun i' d hd => by
        obtain ⟨r, hr, k, e1, e2⟩ := a3.row hd
        have hi : i' < S.rows.length := (List.getElem?_eq_some_iff.mp hr).1
        obtain ⟨k', q1, q2, q3, q4, q5⟩ := a3.2 _ _ hr
        rw [hd, e1] at q1
        cases q1
        exact ⟨r, hr, k, e1, ((e2.fr0 F3).fr0 f26).fr1 f27 q4⟩
      tb_start
      have lrw2 : rdw'.length = S.rows.length := c3.1
      refine gd_i (by omega) ?_
      refine wfor_r (σ := Unit) (fun i _ => [some (.lst (ns.map D.int)), some (.box j), some P.d, some (.box jc), some (.tup (bx.map D.int)), some (.tup [.int 0, .tup (bx.map D.int), .box jm]), some (.box jr), some (.int most), some (.tup [insD e.1 e.2, .tup [.int S.place, .tup (S.bx.map D.int), .box jd'], .box jw', .int n]), some (.box jh), some (.box jk), some (.tup [insD e.1 e.2, .tup [.int S.place, .tup (S.bx.map D.int), .box jd], .box jw, .int n]), none, none, none, none])
        (fun i _ t => Fr [] t22 t ∧ At t jw (.lst rdw) ∧ ∀ (i' : Nat) d, i ≤ i' → rdw[i']? = some d → ∃ r, S.rows[i']? = some r ∧ RowD t r d) () ⟨rfl, rfl, rfl, rfl, rfl, rfl, rfl, rfl, rfl, rfl, rfl, rfl, trivial⟩ ⟨F27, hw27, fun i' d _ hd => rows27 i' d hd⟩ ?_ ?_
      · rintro i ⟨⟩ f t hi ⟨Ft, hw, hrows⟩
        have hc2 := c2.fr0 Ft
        tb_start
        have hi2 : i < S.rows.length := by omega
        have hc3 := c3.fr0 Ft
        refine r_slL hw ?_
        rw [cut_from (by omega)]
        refine r_new fun t30 j30 h30 n30 f30 => ?_
        tb_start
        refine r_slL (hc2.fr0 f30) ?_
        rw [cut_from (by omega)]
        refine r_new fun t31 j31 h31 n31 f31 => ?_
        tb_start
        have ei : ((0 : Int) + (i : Int)).toNat = i := by omega
        have ei' : (i : Int).toNat = i := by omega
        simp only [ei, ei'] at h30 h31
        have F31 : Fr [] t t31 := f30.trans f31
        have hrows31 : ∀ (i' : Nat) d, i ≤ i' → rdw[i']? = some d → ∃ r, S.rows[i']? = some r ∧ RowD t31 r d := fun i' d l hd => by
          obtain ⟨r, hr, k, e1, e2⟩ := hrows i' d l hd
          exact ⟨r, hr, k, e1, e2.fr0 F31⟩
        have AL2 : Alk 6 t31 (.box j30) (.box j31) := al_rows (n := 2) (rows := S.rows.drop i) (h30.fr0 f31) h31 (by rw [List.length_drop, List.length_drop, a3.1]) (by rw [List.length_drop, List.length_drop, lrw2]) (fun i0 d hd => by
            rw [List.getElem?_drop] at hd ⊢
            exact hrows31 _ d (by omega) hd) (fun i0 d hd => by
            rw [List.getElem?_drop] at hd ⊢
            exact (hc3.fr0 F31).row hd) (by rw [List.length_drop]; omega) (fun r hr => srr r (List.mem_of_mem_drop hr))
        refine AL2 t31 _ _ Fr.refl fun t32 f32 => ?_
        tb_start
        have F32 : Fr [] t t32 := F31.trans f32
        obtain ⟨k', q1, q2, q3, q4, q5⟩ := a3.2 i _ (List.getElem?_eq_getElem hi2)
        obtain ⟨r, hr, k2, e1, e2⟩ := hrows i _ (Nat.le_refl _) q1
        rw [List.getElem?_eq_getElem hi2] at hr
        cases hr
        cases e1
        refine atK_i (atI_nat q1) ?_
        tb_start
        refine r_clrD (e2.fr0 F32) fun t33 h33 f33 => ?_
        tb_start
        refine dn_i ⟨(), ⟨rfl, rfl, rfl, rfl, rfl, rfl, rfl, rfl, rfl, rfl, rfl, rfl, trivial⟩, (Ft.trans F32).new q3 f33, (hw.fr0 F32).fr1 f33 (ne_ld hw e2), fun i' d l hd => ?_⟩
        obtain ⟨r', hr', k3, g1, g2⟩ := hrows i' d (by omega) hd
        refine ⟨r', hr', k3, g1, (g2.fr0 F32).fr1 f33 fun z => ?_⟩
        rw [g1, z] at hd
        exact q5 i' _ _ (by omega) hd
      · rintro ⟨⟩ f t ⟨Ft, hw, hrows⟩
        tb_start
        refine r_clear hw fun t40 h40 f40 => ?_
        have F40 : Fr [] t22 t40 := Ft.new na2 f40
        tb_start
        refine w_run (R := R) p (hc22.fr0 F40) cv (hh22.fr0 F40) (hm22.fr0 F40) (reph22.up F40) ok m0 m1 (by omega) gR fun t41 fnd4 res4 f41 => ?_
        rw [hres] at res4
        dsimp only at res4
        tb_start
        have F41 : Fr [] t22 t41 := F40.trans f41
        refine (al_res (n := 1) res4 (res1a.fr0 F41) (by omega) (by omega) (by omega) st.mn (by omega) srr) t41 _ _ Fr.refl fun t42 f42 => ?_
        tb_start
        have F42 : Fr [] t22 t42 := F41.trans f42
        exact (al_repl (n := 2) (hh22.fr0 F42) (hr22.fr0 F42) (reph22.up F42) (rep22.up F42) g (by omega)) t42 _ _ Fr.refl fun t43 f43 => rfl
theorem law_true_k33 : ∀ ns : List Int, ns.length ≤ 63 → ∃ t, g_law_k33_1 [.lst (ns.map D.int)] [] = .ok (.bl true) t := fun ns h => run_of_wp (w_law33 h)
end P

set_option Elab.async false
set_option linter.all false
set_option maxRecDepth 100000
set_option maxHeartbeats 4000000
/-! the walk of the law: each def of the text and what its data level is -/
namespace Lk33
open PySem L2 G P
def top (i : Nat) : Stmt := PySem.Challenge.pw_fencemask_k33_gates_and_replies.main.body.getD i (.Pass ⟨0, 0, 0, 0⟩)
abbrev s_rest : Stmt := top 1
abbrev n_rest : List Str := ["v", "bits"]
theorem sc_rest : FnScope n_rest ["v", "bits"] (defScope s_rest) := ⟨rfl, rfl, rfl, by decide +kernel, rfl, by decide +kernel, by decide +kernel⟩
abbrev s_signed : Stmt := top 2
abbrev n_signed : List Str := ["v", "bits"]
theorem sc_signed : FnScope n_signed ["v", "bits"] (defScope s_signed) := ⟨rfl, rfl, rfl, by decide +kernel, rfl, by decide +kernel, by decide +kernel⟩
abbrev s_fields_of : Stmt := top 10
abbrev n_fields_of : List Str := ["sort"]
theorem sc_fields_of : FnScope n_fields_of ["sort"] (defScope s_fields_of) := ⟨rfl, rfl, rfl, by decide +kernel, rfl, by decide +kernel, by decide +kernel⟩
abbrev s_words_of : Stmt := top 11
abbrev n_words_of : List Str := ["instruction", "sort", "word", "field", "v"]
theorem sc_words_of : FnScope n_words_of ["instruction"] (defScope s_words_of) := ⟨rfl, rfl, rfl, by decide +kernel, rfl, by decide +kernel, by decide +kernel⟩
abbrev s_field_in : Stmt := top 12
abbrev n_field_in : List Str := ["word", "field", "sort"]
theorem sc_field_in : FnScope n_field_in ["word", "field", "sort"] (defScope s_field_in) := ⟨rfl, rfl, rfl, by decide +kernel, rfl, by decide +kernel, by decide +kernel⟩
abbrev s_instruction_at : Stmt := top 13
abbrev n_instruction_at : List Str := ["code", "at", "number", "sort", "found", "field"]
theorem sc_instruction_at : FnScope n_instruction_at ["code", "at"] (defScope s_instruction_at) := ⟨rfl, rfl, rfl, by decide +kernel, rfl, by decide +kernel, by decide +kernel⟩
abbrev s_length_of : Stmt := top 14
abbrev n_length_of : List Str := ["instruction"]
theorem sc_length_of : FnScope n_length_of ["instruction"] (defScope s_length_of) := ⟨rfl, rfl, rfl, by decide +kernel, rfl, by decide +kernel, by decide +kernel⟩
abbrev s_in_room : Stmt := top 20
abbrev n_in_room : List Str := ["plan", "place"]
theorem sc_in_room : FnScope n_in_room ["plan", "place"] (defScope s_in_room) := ⟨rfl, rfl, rfl, by decide +kernel, rfl, by decide +kernel, by decide +kernel⟩
abbrev s_of_two : Stmt := top 21
abbrev n_of_two : List Str := ["sort", "b", "c"]
theorem sc_of_two : FnScope n_of_two ["sort", "b", "c"] (defScope s_of_two) := ⟨rfl, rfl, rfl, by decide +kernel, rfl, by decide +kernel, by decide +kernel⟩
abbrev s_reckoned : Stmt := top 22
abbrev n_reckoned : List Str := ["instruction", "boxes", "sort"]
theorem sc_reckoned : FnScope n_reckoned ["instruction", "boxes"] (defScope s_reckoned) := ⟨rfl, rfl, rfl, by decide +kernel, rfl, by decide +kernel, by decide +kernel⟩
abbrev s_masked : Stmt := top 23
abbrev n_masked : List Str := ["plan", "instruction", "boxes", "b"]
theorem sc_masked : FnScope n_masked ["plan", "instruction", "boxes"] (defScope s_masked) := ⟨rfl, rfl, rfl, by decide +kernel, rfl, by decide +kernel, by decide +kernel⟩
abbrev s_Machine_init : Stmt := inClass (top 24) 0
abbrev n_Machine_init : List Str := ["self", "plan", "code", "stand", "replies"]
theorem sc_Machine_init : FnScope n_Machine_init ["self", "plan", "code", "stand", "replies"] (defScope s_Machine_init) := ⟨rfl, rfl, rfl, by decide +kernel, rfl, by decide +kernel, by decide +kernel⟩
abbrev s_Machine_stand : Stmt := inClass (top 24) 1
abbrev n_Machine_stand : List Str := ["self"]
theorem sc_Machine_stand : FnScope n_Machine_stand ["self"] (defScope s_Machine_stand) := ⟨rfl, rfl, rfl, by decide +kernel, rfl, by decide +kernel, by decide +kernel⟩
abbrev s_Machine_reach : Stmt := inClass (top 24) 2
abbrev n_Machine_reach : List Str := ["self", "instruction", "place", "sort", "a", "b", "n"]
theorem sc_Machine_reach : FnScope n_Machine_reach ["self", "instruction"] (defScope s_Machine_reach) := ⟨rfl, rfl, rfl, by decide +kernel, rfl, by decide +kernel, by decide +kernel⟩
abbrev s_Machine_gate : Stmt := inClass (top 24) 3
abbrev n_Machine_gate : List Str := ["self", "n", "boxes", "writes"]
theorem sc_Machine_gate : FnScope n_Machine_gate ["self", "n"] (defScope s_Machine_gate) := ⟨rfl, rfl, rfl, by decide +kernel, rfl, by decide +kernel, by decide +kernel⟩
abbrev s_Machine_onward : Stmt := inClass (top 24) 4
abbrev n_Machine_onward : List Str := ["self", "instruction", "sort"]
theorem sc_Machine_onward : FnScope n_Machine_onward ["self", "instruction"] (defScope s_Machine_onward) := ⟨rfl, rfl, rfl, by decide +kernel, rfl, by decide +kernel, by decide +kernel⟩
abbrev s_Machine_done : Stmt := inClass (top 24) 5
abbrev n_Machine_done : List Str := ["self", "instruction", "sort", "end"]
theorem sc_Machine_done : FnScope n_Machine_done ["self", "instruction"] (defScope s_Machine_done) := ⟨rfl, rfl, rfl, by decide +kernel, rfl, by decide +kernel, by decide +kernel⟩
abbrev s_run : Stmt := top 25
abbrev n_run : List Str := ["plan", "code", "stand", "replies", "most", "machine", "turns", "end", "instruction"]
theorem sc_run : FnScope n_run ["plan", "code", "stand", "replies", "most"] (defScope s_run) := ⟨rfl, rfl, rfl, by decide +kernel, rfl, by decide +kernel, by decide +kernel⟩
abbrev s_law_draw : Stmt := top 27
abbrev n_law_draw : List Str := ["_law_state", "_law_many", "_law_cell", "_law_script", "_law_k", "_law_digit"]
theorem sc_law_draw : FnScope n_law_draw ["_law_state", "_law_many"] (defScope s_law_draw) := ⟨rfl, rfl, rfl, by decide +kernel, rfl, by decide +kernel, by decide +kernel⟩
abbrev s_law_sorts : Stmt := top 28
abbrev n_law_sorts : List Str := ["_law_some"]
theorem sc_law_sorts : FnScope n_law_sorts [] (defScope s_law_sorts) := ⟨rfl, rfl, rfl, by decide +kernel, rfl, by decide +kernel, by decide +kernel⟩
abbrev s_law_words : Stmt := top 29
abbrev n_law_words : List Str := ["_law_one", "_law_sort", "_law_first"]
theorem sc_law_words : FnScope n_law_words ["_law_one"] (defScope s_law_words) := ⟨rfl, rfl, rfl, by decide +kernel, rfl, by decide +kernel, by decide +kernel⟩
abbrev s_law_read : Stmt := top 30
abbrev n_law_read : List Str := ["_law_code", "_law_at", "_law_word", "_law_sort", "_law_name", "_law_one", "_law_a", "_law_b", "_law_c", "_law_n"]
theorem sc_law_read : FnScope n_law_read ["_law_code", "_law_at"] (defScope s_law_read) := ⟨rfl, rfl, rfl, by decide +kernel, rfl, by decide +kernel, by decide +kernel⟩
abbrev s_law_plan : Stmt := top 31
abbrev n_law_plan : List Str := ["_law_state", "_law_k", "_law_base", "_law_m"]
theorem sc_law_plan : FnScope n_law_plan ["_law_state"] (defScope s_law_plan) := ⟨rfl, rfl, rfl, by decide +kernel, rfl, by decide +kernel, by decide +kernel⟩
abbrev s_law_value : Stmt := top 32
abbrev n_law_value : List Str := ["_law_state", "_law_plan_here", "_law_kind"]
theorem sc_law_value : FnScope n_law_value ["_law_state", "_law_plan_here"] (defScope s_law_value) := ⟨rfl, rfl, rfl, by decide +kernel, rfl, by decide +kernel, by decide +kernel⟩
abbrev s_law_boxes : Stmt := top 33
abbrev n_law_boxes : List Str := ["_law_state", "_law_plan_here", "_law_many", "_law_k"]
theorem sc_law_boxes : FnScope n_law_boxes ["_law_state", "_law_plan_here", "_law_many"] (defScope s_law_boxes) := ⟨rfl, rfl, rfl, by decide +kernel, rfl, by decide +kernel, by decide +kernel⟩
abbrev s_law_memory : Stmt := top 34
abbrev n_law_memory : List Str := ["_law_state", "_law_plan_here", "_law_within", "_law_found", "_law_k", "_law_place"]
theorem sc_law_memory : FnScope n_law_memory ["_law_state", "_law_plan_here", "_law_within"] (defScope s_law_memory) := ⟨rfl, rfl, rfl, by decide +kernel, rfl, by decide +kernel, by decide +kernel⟩
abbrev s_law_number : Stmt := top 35
abbrev n_law_number : List Str := ["_law_state", "_law_some"]
theorem sc_law_number : FnScope n_law_number ["_law_state"] (defScope s_law_number) := ⟨rfl, rfl, rfl, by decide +kernel, rfl, by decide +kernel, by decide +kernel⟩
abbrev s_law_bits : Stmt := top 36
abbrev n_law_bits : List Str := ["_law_word", "_law_b", "_law_c", "_law_found", "_law_k", "_law_one", "_law_other", "_law_both"]
theorem sc_law_bits : FnScope n_law_bits ["_law_word", "_law_b", "_law_c"] (defScope s_law_bits) := ⟨rfl, rfl, rfl, by decide +kernel, rfl, by decide +kernel, by decide +kernel⟩
abbrev s_law_of_two : Stmt := top 37
abbrev n_law_of_two : List Str := ["_law_word", "_law_b", "_law_c", "_law_k"]
theorem sc_law_of_two : FnScope n_law_of_two ["_law_word", "_law_b", "_law_c"] (defScope s_law_of_two) := ⟨rfl, rfl, rfl, by decide +kernel, rfl, by decide +kernel, by decide +kernel⟩
abbrev s_law_makes : Stmt := top 38
abbrev n_law_makes : List Str := ["_law_plan_here", "_law_one", "_law_boxes_here"]
theorem sc_law_makes : FnScope n_law_makes ["_law_plan_here", "_law_one", "_law_boxes_here"] (defScope s_law_makes) := ⟨rfl, rfl, rfl, by decide +kernel, rfl, by decide +kernel, by decide +kernel⟩
abbrev s_law_goes : Stmt := top 39
abbrev n_law_goes : List Str := ["_law_one", "_law_place", "_law_boxes_here"]
theorem sc_law_goes : FnScope n_law_goes ["_law_one", "_law_place", "_law_boxes_here"] (defScope s_law_goes) := ⟨rfl, rfl, rfl, by decide +kernel, rfl, by decide +kernel, by decide +kernel⟩
abbrev s_law_reach : Stmt := top 40
abbrev n_law_reach : List Str := ["_law_plan_here", "_law_one", "_law_boxes_here", "_law_memory_here", "_law_place"]
theorem sc_law_reach : FnScope n_law_reach ["_law_plan_here", "_law_one", "_law_boxes_here", "_law_memory_here"] (defScope s_law_reach) := ⟨rfl, rfl, rfl, by decide +kernel, rfl, by decide +kernel, by decide +kernel⟩
abbrev s_law_gate : Stmt := top 41
abbrev n_law_gate : List Str := ["_law_plan_here", "_law_n", "_law_boxes_here", "_law_memory_here", "_law_rows", "_law_replies", "_law_k", "_law_place", "_law_told", "_law_writes"]
theorem sc_law_gate : FnScope n_law_gate ["_law_plan_here", "_law_n", "_law_boxes_here", "_law_memory_here", "_law_rows", "_law_replies"] (defScope s_law_gate) := ⟨rfl, rfl, rfl, by decide +kernel, rfl, by decide +kernel, by decide +kernel⟩
abbrev s_law_run : Stmt := top 42
abbrev n_law_run : List Str := ["_law_plan_here", "_law_code", "_law_stand", "_law_replies", "_law_most", "_law_rows", "_law_turns", "_law_end", "_law_place", "_law_boxes_here", "_law_memory_here", "_law_one", "_law_made", "_law_far"]
theorem sc_law_run : FnScope n_law_run ["_law_plan_here", "_law_code", "_law_stand", "_law_replies", "_law_most"] (defScope s_law_run) := ⟨rfl, rfl, rfl, by decide +kernel, rfl, by decide +kernel, by decide +kernel⟩
abbrev s_law_whole : Stmt := top 43
abbrev n_law_whole : List Str := ["_law_found"]
theorem sc_law_whole : FnScope n_law_whole ["_law_found"] (defScope s_law_whole) := ⟨rfl, rfl, rfl, by decide +kernel, rfl, by decide +kernel, by decide +kernel⟩
abbrev s_law_alike : Stmt := top 44
abbrev n_law_alike : List Str := ["_law_found", "_law_due", "_law_it", "_law_other", "_law_place"]
theorem sc_law_alike : FnScope n_law_alike ["_law_found", "_law_due"] (defScope s_law_alike) := ⟨rfl, rfl, rfl, by decide +kernel, rfl, by decide +kernel, by decide +kernel⟩
abbrev s_law_straight : Stmt := top 45
abbrev n_law_straight : List Str := ["_law_state", "_law_plan_here", "_law_code", "_law_k", "_law_j", "_law_a", "_law_b", "_law_word"]
theorem sc_law_straight : FnScope n_law_straight ["_law_state", "_law_plan_here"] (defScope s_law_straight) := ⟨rfl, rfl, rfl, by decide +kernel, rfl, by decide +kernel, by decide +kernel⟩
abbrev s_law_k33 : Stmt := top 46
abbrev n_law_k33 : List Str := ["_law_script", "_law_state", "_law_plan_here", "_law_code", "_law_eight", "_law_stand", "_law_replies", "_law_most", "_law_due", "_law_handed", "_law_held", "_law_found", "_law_k", "_law_told", "_law_writes", "_law_row"]
theorem sc_law_k33 : FnScope n_law_k33 ["_law_script"] (defScope s_law_k33) := ⟨rfl, rfl, rfl, by decide +kernel, rfl, by decide +kernel, by decide +kernel⟩
structure Tx (K : PySem.W.Frag) (pr : Params) (mg : Str → Option Value) (cl : Str → Addr) : Prop where
  m_zip : mg "zip" = none
  m_len : mg "len" = none
  m_tuple : mg "tuple" = none
  m_int : mg "int" = none
  m_list : mg "list" = none
  m_dict : mg "dict" = none
  m_abs : mg "abs" = none
  m_range : mg "range" = none
  m_isinstance : mg "isinstance" = none
  m_bool : mg "bool" = none
  m_all : mg "all" = none
  m_str : mg "str" = none
  m_max : mg "max" = none
  k_SORT_BEGINS : Kg K mg "SORT_BEGINS" (.int 27)
  k_NUMBER_BITS : Kg K mg "NUMBER_BITS" (.int 18)
  k_BELOW : Kg K mg "BELOW" (.tup [.str "more", .str "load", .str "store"])
  k_SORTS : Kg K mg "SORTS" (.tup [.str "stop", .str "put", .str "add", .str "sub", .str "and", .str "or", .str "xor", .str "less", .str "left", .str "right", .str "more", .str "load", .str "store", .str "jump", .str "jumpif", .str "through", .str "fit", .str "aim", .str "gate"])
  k_MOST : Kg K mg "MOST" (.int 4294967295)
  k_STEPS_OF_SHIFTS : Kg K mg "STEPS_OF_SHIFTS" (.int 31)
  k_BUNDLE : Kg K mg "BUNDLE" (.int 8)
  k_HOST : Kg K mg "HOST" (.int 7)
  t_SORTS : Kt K mg "SORTS" ["stop", "put", "add", "sub", "and", "or", "xor", "less", "left", "right", "more", "load", "store", "jump", "jumpif", "through", "fit", "aim", "gate"]
  d_FIELDS : Kd K pr mg "FIELDS" [("stop", .str ""), ("put", .str "a"), ("more", .str "abn"), ("load", .str "abn"), ("store", .str "abn"), ("jump", .str "n"), ("jumpif", .str "an"), ("through", .str "b"), ("fit", .str "ab"), ("aim", .str "ab"), ("gate", .str "n")]
  d_BEGINS : Kd K pr mg "BEGINS" [("a", .int 24), ("b", .int 21), ("c", .int 18), ("n", .int 0)]
  c_Machine : Cls K (cl "Machine")
  n_Machine_plan : NoAttr K (cl "Machine") "plan"
  n_Machine_code : NoAttr K (cl "Machine") "code"
  n_Machine_place : NoAttr K (cl "Machine") "place"
  n_Machine_boxes : NoAttr K (cl "Machine") "boxes"
  n_Machine_memory : NoAttr K (cl "Machine") "memory"
  n_Machine_replies : NoAttr K (cl "Machine") "replies"
  n_Machine_rows : NoAttr K (cl "Machine") "rows"
section
variable {P : Program} {w : World} {K : PySem.W.Frag} {mg : Str → Option Value} {base : Heap} {cl : Str → Addr}
theorem ok_rest (T : Tx K w.params mg cl)  {f : Addr} {fd : FuncData} (F : Fun K "rest" "rest" s_rest f fd) (hm : mg "rest" = some (.ref f)) (hb : Binds K fd ["v", "bits"] []) : Df (wz P w K mg base cl) "rest" 1 2 g_rest :=
  have nd := sc_rest.nd
  df_mk (Y := wz P w K mg base cl) rfl rfl F sc_rest hm hb rfl rfl fun cdv A outer s H E hr => (ss_one (ss_ret (s_bin og_mod (s_var 0) (s_bin og_shl s_int (s_var 1)))))
theorem ok_signed (T : Tx K w.params mg cl)  {f : Addr} {fd : FuncData} (F : Fun K "signed" "signed" s_signed f fd) (hm : mg "signed" = some (.ref f)) (hb : Binds K fd ["v", "bits"] []) : Df (wz P w K mg base cl) "signed" 1 2 g_signed :=
  have nd := sc_signed.nd
  df_mk (Y := wz P w K mg base cl) rfl rfl F sc_signed hm hb rfl rfl fun cdv A outer s H E hr => (ss_cons (ss_if (t_cmp og_ge (s_var 0) (s_bin og_shl s_int (s_bin og_sub (s_var 1) s_int)) (by rfl)) (ss_one (ss_ret (s_bin og_sub (s_var 0) (s_bin og_shl s_int (s_var 1))))) ss_nil) (ss_one (ss_ret (s_var 0))))
theorem ok_fields_of (T : Tx K w.params mg cl)  {f : Addr} {fd : FuncData} (F : Fun K "fields_of" "fields_of" s_fields_of f fd) (hm : mg "fields_of" = some (.ref f)) (hb : Binds K fd ["sort"] []) : Df (wz P w K mg base cl) "fields_of" 1 1 g_fields_of :=
  have nd := sc_fields_of.nd
  df_mk (Y := wz P w K mg base cl) rfl rfl F sc_fields_of hm hb rfl rfl fun cdv A outer s H E hr => (ss_one (ss_ret (z_tabGet T.d_FIELDS rfl rfl rfl rfl (s_var 0) s_str ⟨rfl, rfl, rfl, rfl⟩)))
theorem ok_words_of (T : Tx K w.params mg cl) (d_fields_of : Df (wz P w K mg base cl) "fields_of" 1 1 g_fields_of) (d_rest : Df (wz P w K mg base cl) "rest" 1 2 g_rest) {f : Addr} {fd : FuncData} (F : Fun K "words_of" "words_of" s_words_of f fd) (hm : mg "words_of" = some (.ref f)) (hb : Binds K fd ["instruction"] []) : Df (wz P w K mg base cl) "words_of" 2 1 g_words_of :=
  have nd := sc_words_of.nd
  df_mk (Y := wz P w K mg base cl) rfl rfl F sc_words_of hm hb rfl rfl fun cdv A outer s H E hr => (ss_cons (ss_set 1 nd (s_ix (s_var 0) s_int)) (ss_cons (ss_set 2 nd (s_bin og_shl (z_tupIx T.t_SORTS rfl rfl rfl (s_var 1)) (z_kon T.k_SORT_BEGINS rfl rfl rfl))) (ss_cons (ss_for PassesOwn.never rfl (i_zip rfl T.m_zip (z_call d_fields_of ⟨rfl, rfl, rfl, rfl, rfl⟩ (hr.mono (by decide)) rfl (a_cons (s_var 1) a_nil)) (s_sl (s_var 0) (o_some s_int) o_none)) (g_tup rfl (gs_cons 3 nd (gs_cons 4 nd gs_nil))) (ss_one (ss_aug 2 nd iop_add os_iadd (s_bin og_shl (z_call d_rest ⟨rfl, rfl, rfl, rfl, rfl⟩ (hr.mono (by decide)) rfl (a_cons (s_var 4) (a_cons (z_kon T.k_NUMBER_BITS rfl rfl rfl) a_nil))) (z_tabIx T.d_BEGINS rfl rfl rfl rfl (s_var 3)))))) (ss_cons (ss_if (t_cmp (og_eq hr.units) (s_var 1) s_str (by rfl)) (ss_one (ss_ret (s_lst (a_cons (s_var 2) (a_cons (s_ix (s_var 0) s_int) a_nil))))) ss_nil) (ss_one (ss_ret (s_lst (a_cons (s_var 2) a_nil))))))))
theorem ok_field_in (T : Tx K w.params mg cl) (d_rest : Df (wz P w K mg base cl) "rest" 1 2 g_rest) (d_signed : Df (wz P w K mg base cl) "signed" 1 2 g_signed) {f : Addr} {fd : FuncData} (F : Fun K "field_in" "field_in" s_field_in f fd) (hm : mg "field_in" = some (.ref f)) (hb : Binds K fd ["word", "field", "sort"] []) : Df (wz P w K mg base cl) "field_in" 2 3 g_field_in :=
  have nd := sc_field_in.nd
  df_mk (Y := wz P w K mg base cl) rfl rfl F sc_field_in hm hb rfl rfl fun cdv A outer s H E hr => (ss_cons (ss_if (t_cmp (og_ne hr.units) (s_var 1) s_str (by rfl)) (ss_one (ss_ret (z_call d_rest ⟨rfl, rfl, rfl, rfl, rfl⟩ (hr.mono (by decide)) rfl (a_cons (s_bin og_shr (s_var 0) (z_tabIx T.d_BEGINS rfl rfl rfl rfl (s_var 1))) (a_cons s_int a_nil))))) ss_nil) (ss_cons (ss_if (t_cmp og_in (s_var 2) (z_kon T.k_BELOW rfl rfl rfl) (by rfl)) (ss_one (ss_ret (z_call d_signed ⟨rfl, rfl, rfl, rfl, rfl⟩ (hr.mono (by decide)) rfl (a_cons (z_call d_rest ⟨rfl, rfl, rfl, rfl, rfl⟩ (hr.mono (by decide)) rfl (a_cons (s_var 0) (a_cons (z_kon T.k_NUMBER_BITS rfl rfl rfl) a_nil))) (a_cons (z_kon T.k_NUMBER_BITS rfl rfl rfl) a_nil))))) ss_nil) (ss_one (ss_ret (z_call d_rest ⟨rfl, rfl, rfl, rfl, rfl⟩ (hr.mono (by decide)) rfl (a_cons (s_var 0) (a_cons (z_kon T.k_NUMBER_BITS rfl rfl rfl) a_nil)))))))
theorem ok_instruction_at (T : Tx K w.params mg cl) (d_fields_of : Df (wz P w K mg base cl) "fields_of" 1 1 g_fields_of) (d_field_in : Df (wz P w K mg base cl) "field_in" 2 3 g_field_in) (d_words_of : Df (wz P w K mg base cl) "words_of" 2 1 g_words_of) {f : Addr} {fd : FuncData} (F : Fun K "instruction_at" "instruction_at" s_instruction_at f fd) (hm : mg "instruction_at" = some (.ref f)) (hb : Binds K fd ["code", "at"] []) : Df (wz P w K mg base cl) "instruction_at" 3 2 g_instruction_at :=
  have nd := sc_instruction_at.nd
  df_mk (Y := wz P w K mg base cl) rfl rfl F sc_instruction_at hm hb rfl rfl fun cdv A outer s H E hr => (ss_cons (ss_if (t_pw (w_or (t_cmp og_lt (s_var 1) s_int (by rfl)) (w_or1 (t_cmp og_ge (s_var 1) (s_len rfl T.m_len (a_cons (s_var 0) a_nil)) (by rfl))))) (ss_one (ss_ret s_non)) ss_nil) (ss_cons (ss_set 2 nd (s_bin og_shr (s_ix (s_var 0) (s_var 1)) (z_kon T.k_SORT_BEGINS rfl rfl rfl))) (ss_cons (ss_if (t_cmp og_ge (s_var 2) (s_len rfl T.m_len (a_cons (z_kon T.k_SORTS rfl rfl rfl) a_nil)) (by rfl)) (ss_one (ss_ret s_non)) ss_nil) (ss_cons (ss_set 3 nd (s_ix (z_kon T.k_SORTS rfl rfl rfl) (s_var 2))) (ss_cons (ss_set 4 nd (s_bin og_add (s_tup (a_cons (s_var 3) a_nil)) (s_tp rfl T.m_tuple (l_lc rfl nd (i_seq (z_call d_fields_of ⟨rfl, rfl, rfl, rfl, rfl⟩ (hr.mono (by decide)) rfl (a_cons (s_var 3) a_nil))) (blkOk_by (own := [("field", 5)]) (N := n_instruction_at) (sc := defScope s_instruction_at) (by decide +kernel)) rfl (cg_name (by decide)) (fun _ _ _ _ _ => pg_name (i := 5) nd rfl (Or.inl rfl)) (fun _ _ _ _ _ => ts_nil) (fun _ _ _ _ _ => (z_call d_field_in ⟨rfl, rfl, rfl, rfl, rfl⟩ (hr.mono (by decide)) rfl (a_cons (s_ix (s_var 0) (s_var 1)) (a_cons (s_var 5) (a_cons (s_var 3) a_nil))))))))) (ss_cons (ss_if (t_cmp (og_eq hr.units) (s_var 3) s_str (by rfl)) (ss_cons (ss_if (t_cmp og_ge (s_bin og_add (s_var 1) s_int) (s_len rfl T.m_len (a_cons (s_var 0) a_nil)) (by rfl)) (ss_one (ss_ret s_non)) ss_nil) (ss_one (ss_set 4 nd (s_bin og_add (s_var 4) (s_tup (a_cons (s_ix (s_var 0) (s_bin og_add (s_var 1) s_int)) a_nil)))))) ss_nil) (ss_cons (ss_if (t_cmp (og_ne hr.units) (s_ix (z_call d_words_of ⟨rfl, rfl, rfl, rfl, rfl⟩ (hr.mono (by decide)) rfl (a_cons (s_var 4) a_nil)) s_int) (s_ix (s_var 0) (s_var 1)) (by rfl)) (ss_one (ss_ret s_non)) ss_nil) (ss_one (ss_ret (s_var 4))))))))))
theorem ok_length_of (T : Tx K w.params mg cl)  {f : Addr} {fd : FuncData} (F : Fun K "length_of" "length_of" s_length_of f fd) (hm : mg "length_of" = some (.ref f)) (hb : Binds K fd ["instruction"] []) : Df (wz P w K mg base cl) "length_of" 1 1 g_length_of :=
  have nd := sc_length_of.nd
  df_mk (Y := wz P w K mg base cl) rfl rfl F sc_length_of hm hb rfl rfl fun cdv A outer s H E hr => (ss_cons (ss_if (t_cmp (og_eq hr.units) (s_ix (s_var 0) s_int) s_str (by rfl)) (ss_one (ss_ret s_int)) ss_nil) (ss_one (ss_ret s_int)))
theorem ok_in_room (T : Tx K w.params mg cl)  {f : Addr} {fd : FuncData} (F : Fun K "in_room" "in_room" s_in_room f fd) (hm : mg "in_room" = some (.ref f)) (hb : Binds K fd ["plan", "place"] []) : Df (wz P w K mg base cl) "in_room" 1 2 g_in_room_1 :=
  have nd := sc_in_room.nd
  df_mk (Y := wz P w K mg base cl) rfl rfl F sc_in_room hm hb rfl rfl fun cdv A outer s H E hr => (ss_one (ss_ret (s_chain og_le og_lt (s_ix2 (u1_of hr.units) (s_var 0) s_int) (s_var 1) (s_bin og_add (s_ix2 (u1_of hr.units) (s_var 0) s_int) (s_bin og_shl s_int (s_ix2 (u1_of hr.units) (s_var 0) s_int))))))
theorem ok_of_two (T : Tx K w.params mg cl)  {f : Addr} {fd : FuncData} (F : Fun K "of_two" "of_two" s_of_two f fd) (hm : mg "of_two" = some (.ref f)) (hb : Binds K fd ["sort", "b", "c"] []) : Df (wz P w K mg base cl) "of_two" 1 3 g_of_two :=
  have nd := sc_of_two.nd
  df_mk (Y := wz P w K mg base cl) rfl rfl F sc_of_two hm hb rfl rfl fun cdv A outer s H E hr => (ss_cons (ss_if (t_cmp (og_eq hr.units) (s_var 0) s_str (by rfl)) (ss_one (ss_ret (s_bin og_and (s_bin og_add (s_var 1) (s_var 2)) (z_kon T.k_MOST rfl rfl rfl)))) ss_nil) (ss_cons (ss_if (t_cmp (og_eq hr.units) (s_var 0) s_str (by rfl)) (ss_one (ss_ret (s_bin og_and (s_bin og_sub (s_var 1) (s_var 2)) (z_kon T.k_MOST rfl rfl rfl)))) ss_nil) (ss_cons (ss_if (t_cmp (og_eq hr.units) (s_var 0) s_str (by rfl)) (ss_one (ss_ret (s_bin og_and (s_var 1) (s_var 2)))) ss_nil) (ss_cons (ss_if (t_cmp (og_eq hr.units) (s_var 0) s_str (by rfl)) (ss_one (ss_ret (s_bin og_or (s_var 1) (s_var 2)))) ss_nil) (ss_cons (ss_if (t_cmp (og_eq hr.units) (s_var 0) s_str (by rfl)) (ss_one (ss_ret (s_bin og_xor (s_var 1) (s_var 2)))) ss_nil) (ss_cons (ss_if (t_cmp (og_eq hr.units) (s_var 0) s_str (by rfl)) (ss_one (ss_ret (s_int1 rfl T.m_int (a_cons (s_cmp og_lt (s_var 1) (s_var 2) (by rfl)) a_nil)))) ss_nil) (ss_cons (ss_if (t_cmp (og_eq hr.units) (s_var 0) s_str (by rfl)) (ss_one (ss_ret (s_bin og_and (s_bin og_shl (s_var 1) (s_bin og_and (s_var 2) (z_kon T.k_STEPS_OF_SHIFTS rfl rfl rfl))) (z_kon T.k_MOST rfl rfl rfl)))) ss_nil) (ss_one (ss_ret (s_bin og_shr (s_var 1) (s_bin og_and (s_var 2) (z_kon T.k_STEPS_OF_SHIFTS rfl rfl rfl))))))))))))
theorem ok_reckoned (T : Tx K w.params mg cl) (d_of_two : Df (wz P w K mg base cl) "of_two" 1 3 g_of_two) {f : Addr} {fd : FuncData} (F : Fun K "reckoned" "reckoned" s_reckoned f fd) (hm : mg "reckoned" = some (.ref f)) (hb : Binds K fd ["instruction", "boxes"] []) : Df (wz P w K mg base cl) "reckoned" 2 2 g_reckoned_1 :=
  have nd := sc_reckoned.nd
  df_mk (Y := wz P w K mg base cl) rfl rfl F sc_reckoned hm hb rfl rfl fun cdv A outer s H E hr => (ss_cons (ss_set 2 nd (s_ix2 (u1_of hr.units) (s_var 0) s_int)) (ss_cons (ss_if (t_cmp (og_eq hr.units) (s_var 2) s_str (by rfl)) (ss_one (ss_ret (s_ix2 (u1_of hr.units) (s_var 0) s_int))) ss_nil) (ss_cons (ss_if (t_cmp (og_eq hr.units) (s_var 2) s_str (by rfl)) (ss_one (ss_ret (s_bin og_and (s_bin og_add (s_ix2 (u1_of hr.units) (s_var 1) (s_ix2 (u1_of hr.units) (s_var 0) s_int)) (s_ix2 (u1_of hr.units) (s_var 0) s_int)) (z_kon T.k_MOST rfl rfl rfl)))) ss_nil) (ss_cons (ss_if (t_cmp og_in (s_var 2) (s_tup (a_cons s_str (a_cons s_str (a_cons s_str (a_cons s_str (a_cons s_str (a_cons s_str (a_cons s_str (a_cons s_str a_nil))))))))) (by rfl)) (ss_one (ss_ret (z_call d_of_two ⟨rfl, rfl, rfl, rfl, rfl⟩ (hr.mono (by decide)) rfl (a_cons (s_var 2) (a_cons (s_ix2 (u1_of hr.units) (s_var 1) (s_ix2 (u1_of hr.units) (s_var 0) s_int)) (a_cons (s_ix2 (u1_of hr.units) (s_var 1) (s_ix2 (u1_of hr.units) (s_var 0) s_int)) a_nil)))))) ss_nil) (ss_one (ss_ret s_non))))))
theorem ok_masked (T : Tx K w.params mg cl)  {f : Addr} {fd : FuncData} (F : Fun K "masked" "masked" s_masked f fd) (hm : mg "masked" = some (.ref f)) (hb : Binds K fd ["plan", "instruction", "boxes"] []) : Df (wz P w K mg base cl) "masked" 1 3 g_masked_1 :=
  have nd := sc_masked.nd
  df_mk (Y := wz P w K mg base cl) rfl rfl F sc_masked hm hb rfl rfl fun cdv A outer s H E hr => (ss_cons (ss_set 3 nd (s_ix2 (u1_of hr.units) (s_var 2) (s_ix2 (u1_of hr.units) (s_var 1) s_int))) (ss_cons (ss_if (t_cmp (og_eq hr.units) (s_ix2 (u1_of hr.units) (s_var 1) s_int) s_str (by rfl)) (ss_one (ss_ret (s_bin og_add (s_ix2 (u1_of hr.units) (s_var 0) s_int) (s_bin og_and (s_var 3) (s_bin og_sub (s_bin og_shl s_int (s_ix2 (u1_of hr.units) (s_var 0) s_int)) s_int))))) ss_nil) (ss_one (ss_ret (s_bin og_mul (s_bin og_and (s_var 3) (s_bin og_sub (s_bin og_shl s_int (s_ix2 (u1_of hr.units) (s_var 0) s_int)) s_int)) (s_bin og_shl (z_kon T.k_BUNDLE rfl rfl rfl) (s_ix2 (u1_of hr.units) (s_var 0) s_int)))))))
theorem ok_Machine_init (T : Tx K w.params mg cl)  {f : Addr} {fd : FuncData} (F : Fun K "__init__" "Machine.__init__" s_Machine_init f fd) (hg : mg "Machine" = some (.ref (cl "Machine"))) (hm : Mk K (cl "Machine") f) (hb : Binds K fd ["self", "plan", "code", "stand", "replies"] []) : DfC (wz P w K mg base cl) "Machine" 1 5 g_Machine_init :=
  have nd := sc_Machine_init.nd
  dfc_mk (Y := wz P w K mg base cl) rfl rfl F sc_Machine_init hg hm hb rfl rfl fun cdv A outer s H E hr => (ss_cons (ss_fld T.c_Machine T.n_Machine_plan (s_var 0) (s_var 1)) (ss_cons (ss_fld T.c_Machine T.n_Machine_code (s_var 0) (s_list1 rfl T.m_list (a_cons (s_var 2) a_nil))) (ss_cons (ss_fld T.c_Machine T.n_Machine_place (s_var 0) (s_ix2 (u1_of hr.units) (s_var 3) s_int)) (ss_cons (ss_fld T.c_Machine T.n_Machine_boxes (s_var 0) (s_list1 rfl T.m_list (a_cons (s_ix2 (u1_of hr.units) (s_var 3) s_int) a_nil))) (ss_cons (ss_fld T.c_Machine T.n_Machine_memory (s_var 0) (s_dict1 rfl T.m_dict (a_cons (s_ix2 (u1_of hr.units) (s_var 3) s_int) a_nil))) (ss_cons (ss_fld T.c_Machine T.n_Machine_replies (s_var 0) (s_list1 rfl T.m_list (a_cons (s_var 4) a_nil))) (ss_one (ss_fld T.c_Machine T.n_Machine_rows (s_var 0) (s_lst a_nil)))))))))
theorem ok_Machine_stand (T : Tx K w.params mg cl)  {f : Addr} {fd : FuncData} (F : Fun K "stand" "Machine.stand" s_Machine_stand f fd) (hm : Meth K (cl "Machine") "stand" f) (hb : Binds K fd ["self"] []) : DfM (wz P w K mg base cl) "Machine" "stand" 1 1 g_Machine_stand :=
  have nd := sc_Machine_stand.nd
  dfm_mk (Y := wz P w K mg base cl) rfl rfl F sc_Machine_stand hm hb rfl rfl fun cdv A outer s H E hr => (ss_one (ss_ret (s_tup (a_cons (s_fld T.c_Machine T.n_Machine_place (s_var 0)) (a_cons (s_tuple1 rfl T.m_tuple (a_cons (s_fld T.c_Machine T.n_Machine_boxes (s_var 0)) a_nil)) (a_cons (s_dict1 rfl T.m_dict (a_cons (s_fld T.c_Machine T.n_Machine_memory (s_var 0)) a_nil)) a_nil))))))
theorem ok_Machine_reach (T : Tx K w.params mg cl) (d_in_room : Df (wz P w K mg base cl) "in_room" 1 2 g_in_room_1) {f : Addr} {fd : FuncData} (F : Fun K "reach" "Machine.reach" s_Machine_reach f fd) (hm : Meth K (cl "Machine") "reach" f) (hb : Binds K fd ["self", "instruction"] []) : DfM (wz P w K mg base cl) "Machine" "reach" 2 2 g_Machine_reach :=
  have nd := sc_Machine_reach.nd
  dfm_mk (Y := wz P w K mg base cl) rfl rfl F sc_Machine_reach hm hb rfl rfl fun cdv A outer s H E hr => (ss_cons (ss_unp2 rfl (gs_cons 3 nd (gs_cons 4 nd (gs_cons 5 nd (gs_cons 6 nd gs_nil)))) (s_var 1)) (ss_cons (ss_set 2 nd (s_bin og_and (s_bin og_add (s_ix2 (u1_of hr.units) (s_fld T.c_Machine T.n_Machine_boxes (s_var 0)) (s_var 5)) (s_var 6)) (z_kon T.k_MOST rfl rfl rfl))) (ss_cons (ss_if (t_not (t_val (z_call d_in_room ⟨rfl, rfl, rfl, rfl, rfl⟩ (hr.mono (by decide)) rfl (a_cons (s_fld T.c_Machine T.n_Machine_plan (s_var 0)) (a_cons (s_var 2) a_nil))))) (ss_one (ss_ret (s_tup (a_cons s_str (a_cons (s_var 2) a_nil))))) ss_nil) (ss_cons (ss_if (t_cmp (og_eq hr.units) (s_var 3) s_str (by rfl)) (ss_one (ss_put (set_2 (u1_of hr.units)) pu_2 (s_fld T.c_Machine T.n_Machine_boxes (s_var 0)) (s_var 4) (s_getD (u1_of hr.units) (s_fld T.c_Machine T.n_Machine_memory (s_var 0)) (s_var 2) s_int ⟨rfl, rfl, rfl, rfl⟩))) (ss_one (ss_put (set_2 (u1_of hr.units)) pu_2 (s_fld T.c_Machine T.n_Machine_memory (s_var 0)) (s_var 2) (s_ix2 (u1_of hr.units) (s_fld T.c_Machine T.n_Machine_boxes (s_var 0)) (s_var 4))))) (ss_one (ss_ret s_non))))))
theorem ok_Machine_gate (T : Tx K w.params mg cl)  {f : Addr} {fd : FuncData} (F : Fun K "gate" "Machine.gate" s_Machine_gate f fd) (hm : Meth K (cl "Machine") "gate" f) (hb : Binds K fd ["self", "n"] []) : DfM (wz P w K mg base cl) "Machine" "gate" 1 2 g_Machine_gate :=
  have nd := sc_Machine_gate.nd
  dfm_mk (Y := wz P w K mg base cl) rfl rfl F sc_Machine_gate hm hb rfl rfl fun cdv A outer s H E hr => (ss_cons (ss_if (t_cmp og_ge (s_var 1) (s_ix2 (u1_of hr.units) (s_fld T.c_Machine T.n_Machine_plan (s_var 0)) s_int) (by rfl)) (ss_one (ss_ret (s_tup (a_cons s_str a_nil)))) ss_nil) (ss_cons (ss_drop (s_app (s_fld T.c_Machine T.n_Machine_rows (s_var 0)) (a_cons (s_tup (a_cons (s_var 1) (a_cons (s_tuple1 rfl T.m_tuple (a_cons (s_fld T.c_Machine T.n_Machine_boxes (s_var 0)) a_nil)) (a_cons (s_dict1 rfl T.m_dict (a_cons (s_fld T.c_Machine T.n_Machine_memory (s_var 0)) a_nil)) a_nil)))) a_nil))) (ss_cons (ss_if (t_cmp og_gt (s_len rfl T.m_len (a_cons (s_fld T.c_Machine T.n_Machine_rows (s_var 0)) a_nil)) (s_len rfl T.m_len (a_cons (s_fld T.c_Machine T.n_Machine_replies (s_var 0)) a_nil)) (by rfl)) (ss_one (ss_ret (s_tup (a_cons s_str (a_cons (s_var 1) a_nil))))) ss_nil) (ss_cons (ss_unp2 rfl (gs_cons 2 nd (gs_cons 3 nd gs_nil)) (s_ix2 (u1_of hr.units) (s_fld T.c_Machine T.n_Machine_replies (s_var 0)) (s_bin og_sub (s_len rfl T.m_len (a_cons (s_fld T.c_Machine T.n_Machine_rows (s_var 0)) a_nil)) s_int))) (ss_cons (ss_fld T.c_Machine T.n_Machine_boxes (s_var 0) (s_bin og_add (s_list1 rfl T.m_list (a_cons (s_var 2) a_nil)) (s_lst (a_cons (s_ix2 (u1_of hr.units) (s_fld T.c_Machine T.n_Machine_boxes (s_var 0)) (z_kon T.k_HOST rfl rfl rfl)) a_nil)))) (ss_cons (ss_drop (s_upd (s_fld T.c_Machine T.n_Machine_memory (s_var 0)) (s_var 3) ⟨rfl, rfl, rfl, rfl⟩)) (ss_one (ss_ret s_non))))))))
theorem ok_Machine_onward (T : Tx K w.params mg cl) (d_length_of : Df (wz P w K mg base cl) "length_of" 1 1 g_length_of) {f : Addr} {fd : FuncData} (F : Fun K "onward" "Machine.onward" s_Machine_onward f fd) (hm : Meth K (cl "Machine") "onward" f) (hb : Binds K fd ["self", "instruction"] []) : DfM (wz P w K mg base cl) "Machine" "onward" 2 2 g_Machine_onward :=
  have nd := sc_Machine_onward.nd
  dfm_mk (Y := wz P w K mg base cl) rfl rfl F sc_Machine_onward hm hb rfl rfl fun cdv A outer s H E hr => (ss_cons (ss_set 2 nd (s_ix2 (u1_of hr.units) (s_var 1) s_int)) (ss_cons (ss_if (t_pw (w_or (t_cmp (og_eq hr.units) (s_var 2) s_str (by rfl)) (w_or1 (t_pw (w_and (t_cmp (og_eq hr.units) (s_var 2) s_str (by rfl)) (w_and1 (t_cmp (og_ne hr.units) (s_ix2 (u1_of hr.units) (s_fld T.c_Machine T.n_Machine_boxes (s_var 0)) (s_ix2 (u1_of hr.units) (s_var 1) s_int)) s_int (by rfl)))))))) (ss_one (ss_ret (s_ix2 (u1_of hr.units) (s_var 1) (s_neg s_int)))) ss_nil) (ss_cons (ss_if (t_cmp (og_eq hr.units) (s_var 2) s_str (by rfl)) (ss_one (ss_ret (s_ix2 (u1_of hr.units) (s_fld T.c_Machine T.n_Machine_boxes (s_var 0)) (s_ix2 (u1_of hr.units) (s_var 1) s_int)))) ss_nil) (ss_one (ss_ret (s_bin og_add (s_fld T.c_Machine T.n_Machine_place (s_var 0)) (z_call d_length_of ⟨rfl, rfl, rfl, rfl, rfl⟩ (hr.mono (by decide)) rfl (a_cons (s_var 1) a_nil))))))))
theorem ok_Machine_done (T : Tx K w.params mg cl) (d_Machine_reach : DfM (wz P w K mg base cl) "Machine" "reach" 2 2 g_Machine_reach) (d_Machine_gate : DfM (wz P w K mg base cl) "Machine" "gate" 1 2 g_Machine_gate) (d_masked : Df (wz P w K mg base cl) "masked" 1 3 g_masked_1) (d_reckoned : Df (wz P w K mg base cl) "reckoned" 2 2 g_reckoned_1) (d_Machine_onward : DfM (wz P w K mg base cl) "Machine" "onward" 2 2 g_Machine_onward) {f : Addr} {fd : FuncData} (F : Fun K "done" "Machine.done" s_Machine_done f fd) (hm : Meth K (cl "Machine") "done" f) (hb : Binds K fd ["self", "instruction"] []) : DfM (wz P w K mg base cl) "Machine" "done" 3 2 g_Machine_done :=
  have nd := sc_Machine_done.nd
  dfm_mk (Y := wz P w K mg base cl) rfl rfl F sc_Machine_done hm hb rfl rfl fun cdv A outer s H E hr => (ss_cons (ss_set 2 nd (s_ix2 (u1_of hr.units) (s_var 1) s_int)) (ss_cons (ss_set 3 nd s_non) (ss_cons (ss_if (t_cmp (og_eq hr.units) (s_var 2) s_str (by rfl)) (ss_one (ss_ret (s_tup (a_cons s_str a_nil)))) ss_nil) (ss_cons (ss_if (t_pw (w_or (t_cmp (og_eq hr.units) (s_var 2) s_str (by rfl)) (w_or1 (t_cmp (og_eq hr.units) (s_var 2) s_str (by rfl))))) (ss_one (ss_set 3 nd (s_meth (c := "Machine") d_Machine_reach ⟨rfl, rfl, rfl, rfl, rfl⟩ (hr.mono (by decide)) T.c_Machine (s_var 0) (a_cons (s_var 1) a_nil)))) (ss_one (ss_if (t_cmp (og_eq hr.units) (s_var 2) s_str (by rfl)) (ss_one (ss_set 3 nd (s_meth (c := "Machine") d_Machine_gate ⟨rfl, rfl, rfl, rfl, rfl⟩ (hr.mono (by decide)) T.c_Machine (s_var 0) (a_cons (s_ix2 (u1_of hr.units) (s_var 1) s_int) a_nil)))) (ss_one (ss_if (t_pw (w_or (t_cmp (og_eq hr.units) (s_var 2) s_str (by rfl)) (w_or1 (t_cmp (og_eq hr.units) (s_var 2) s_str (by rfl))))) (ss_one (ss_put (set_2 (u1_of hr.units)) pu_2 (s_fld T.c_Machine T.n_Machine_boxes (s_var 0)) (s_ix2 (u1_of hr.units) (s_var 1) s_int) (z_call d_masked ⟨rfl, rfl, rfl, rfl, rfl⟩ (hr.mono (by decide)) rfl (a_cons (s_fld T.c_Machine T.n_Machine_plan (s_var 0)) (a_cons (s_var 1) (a_cons (s_fld T.c_Machine T.n_Machine_boxes (s_var 0)) a_nil)))))) (ss_one (ss_if (t_cmp og_nin (s_var 2) (s_tup (a_cons s_str (a_cons s_str (a_cons s_str a_nil)))) (by rfl)) (ss_one (ss_put (set_2 (u1_of hr.units)) pu_2 (s_fld T.c_Machine T.n_Machine_boxes (s_var 0)) (s_ix2 (u1_of hr.units) (s_var 1) s_int) (z_call d_reckoned ⟨rfl, rfl, rfl, rfl, rfl⟩ (hr.mono (by decide)) rfl (a_cons (s_var 1) (a_cons (s_fld T.c_Machine T.n_Machine_boxes (s_var 0)) a_nil))))) ss_nil))))))) (ss_cons (ss_if (t_isN (s_var 3)) (ss_one (ss_fld T.c_Machine T.n_Machine_place (s_var 0) (s_meth (c := "Machine") d_Machine_onward ⟨rfl, rfl, rfl, rfl, rfl⟩ (hr.mono (by decide)) T.c_Machine (s_var 0) (a_cons (s_var 1) a_nil)))) ss_nil) (ss_one (ss_ret (s_var 3))))))))
theorem ok_run (T : Tx K w.params mg cl) (d_Machine_init : DfC (wz P w K mg base cl) "Machine" 1 5 g_Machine_init) (d_instruction_at : Df (wz P w K mg base cl) "instruction_at" 3 2 g_instruction_at) (d_Machine_done : DfM (wz P w K mg base cl) "Machine" "done" 3 2 g_Machine_done) (d_Machine_stand : DfM (wz P w K mg base cl) "Machine" "stand" 1 1 g_Machine_stand) {f : Addr} {fd : FuncData} (F : Fun K "run" "run" s_run f fd) (hm : mg "run" = some (.ref f)) (hb : Binds K fd ["plan", "code", "stand", "replies", "most"] []) : Df (wz P w K mg base cl) "run" 4 5 g_run :=
  have nd := sc_run.nd
  df_mk (Y := wz P w K mg base cl) rfl rfl F sc_run hm hb rfl rfl fun cdv A outer s H E hr => (ss_cons (ss_set 5 nd (s_make (c := "Machine") d_Machine_init ⟨rfl, rfl, rfl, rfl, rfl⟩ (hr.mono (by decide)) rfl (a_cons (s_var 0) (a_cons (s_var 1) (a_cons (s_var 2) (a_cons (s_var 3) a_nil)))))) (ss_cons (ss_set 6 nd s_int) (ss_cons (ss_set 7 nd s_non) (ss_cons (ss_while PassesOwn.never (t_isN (s_var 7)) (ss_cons (ss_set 8 nd (z_call d_instruction_at ⟨rfl, rfl, rfl, rfl, rfl⟩ (hr.mono (by decide)) rfl (a_cons (s_fld T.c_Machine T.n_Machine_code (s_var 5)) (a_cons (s_fld T.c_Machine T.n_Machine_place (s_var 5)) a_nil)))) (ss_one (ss_if (t_isN (s_var 8)) (ss_one (ss_set 7 nd (s_tup (a_cons s_str a_nil)))) (ss_one (ss_if (t_cmp (og_eq2 hr.units) (s_var 6) (s_var 4) (by rfl)) (ss_one (ss_set 7 nd (s_tup (a_cons s_str a_nil)))) (ss_cons (ss_aug 6 nd iop_add os_iadd s_int) (ss_one (ss_set 7 nd (s_meth (c := "Machine") d_Machine_done ⟨rfl, rfl, rfl, rfl, rfl⟩ (hr.mono (by decide)) T.c_Machine (s_var 5) (a_cons (s_var 8) a_nil))))))))))) (ss_one (ss_ret (s_tup (a_cons (s_var 7) (a_cons (s_meth0 (c := "Machine") d_Machine_stand ⟨rfl, rfl, rfl, rfl, rfl⟩ (hr.mono (by decide)) T.c_Machine (s_var 5)) (a_cons (s_fld T.c_Machine T.n_Machine_rows (s_var 5)) (a_cons (s_var 6) a_nil)))))))))))
theorem ok_law_draw (T : Tx K w.params mg cl)  {f : Addr} {fd : FuncData} (F : Fun K "_law_draw" "_law_draw" s_law_draw f fd) (hm : mg "_law_draw" = some (.ref f)) (hb : Binds K fd ["_law_state", "_law_many"] []) : Df (wz P w K mg base cl) "_law_draw" 1 2 g_law_draw_3 :=
  have nd := sc_law_draw.nd
  df_mk (Y := wz P w K mg base cl) rfl rfl F sc_law_draw hm hb rfl rfl fun cdv A outer s H E hr => (ss_cons (ss_unp2 rfl (gs_cons 3 nd (gs_cons 4 nd gs_nil)) (s_sl (s_var 0) o_none (o_some s_int))) (ss_cons (ss_put (set_2 (u1_of hr.units)) pu_2 (s_var 0) s_int (s_bin og_add (s_var 4) s_int)) (ss_cons (ss_if (t_pw (w_and (t_cmp og_lt (s_bin og_div (s_var 4) s_int) (s_len rfl T.m_len (a_cons (s_var 3) a_nil)) (by rfl)) (w_and1 (t_cmp og_ge (s_abs rfl T.m_abs (a_cons (s_ix2 (u1_of hr.units) (s_var 3) (s_bin og_div (s_var 4) s_int)) a_nil)) (s_bin og_pow s_int s_int) (by rfl))))) (ss_cons (ss_if (t_cmp (og_eq hr.units) (s_bin og_mod (s_var 4) s_int) s_int (by rfl)) (ss_one (ss_put (set_2 (u1_of hr.units)) pu_2 (s_var 0) s_int (s_abs rfl T.m_abs (a_cons (s_ix2 (u1_of hr.units) (s_var 3) (s_bin og_div (s_var 4) s_int)) a_nil)))) ss_nil) (ss_one (ss_if (t_cmp og_gt (s_ix2 (u1_of hr.units) (s_var 0) s_int) s_int (by rfl)) (ss_cons (ss_set 5 nd (s_bin og_mod (s_ix2 (u1_of hr.units) (s_var 0) s_int) (s_var 1))) (ss_cons (ss_put (set_2 (u1_of hr.units)) pu_2 (s_var 0) s_int (s_bin og_div (s_ix2 (u1_of hr.units) (s_var 0) s_int) (s_var 1))) (ss_one (ss_ret (s_var 5))))) ss_nil))) ss_nil) (ss_cons (ss_set 2 nd (s_bin og_add (s_bin og_mul (s_var 4) s_int) s_int)) (ss_cons (ss_if (t_cmp og_gt (s_len rfl T.m_len (a_cons (s_var 3) a_nil)) s_int (by rfl)) (ss_one (ss_set 2 nd (s_bin og_add (s_var 2) (s_bin og_mul (s_bin og_mod (s_ix2 (u1_of hr.units) (s_var 3) (s_bin og_mod (s_bin og_mul (s_var 4) s_int) (s_len rfl T.m_len (a_cons (s_var 3) a_nil)))) s_int) (s_bin og_add s_int (s_var 4)))))) ss_nil) (ss_cons (ss_set 2 nd (s_bin og_mod (s_bin og_mul (s_bin og_mod (s_var 2) s_int) (s_bin og_add (s_var 4) s_int)) s_int)) (ss_cons (ss_set 2 nd (s_bin og_mod (s_bin og_mul (s_var 2) (s_var 2)) s_int)) (ss_one (ss_ret (s_bin og_mod (s_bin og_mul (s_bin og_mod (s_bin og_mul (s_var 2) (s_var 2)) s_int) s_int) (s_var 1)))))))))))
theorem ok_law_sorts (T : Tx K w.params mg cl)  {f : Addr} {fd : FuncData} (F : Fun K "_law_sorts" "_law_sorts" s_law_sorts f fd) (hm : mg "_law_sorts" = some (.ref f)) (hb : Binds K fd [] []) : Df (wz P w K mg base cl) "_law_sorts" 1 0 g_law_sorts :=
  have nd := sc_law_sorts.nd
  df_mk (Y := wz P w K mg base cl) rfl rfl F sc_law_sorts hm hb rfl rfl fun cdv A outer s H E hr => (ss_cons (ss_set 0 nd (s_lst (a_cons s_str (a_cons s_str (a_cons s_str (a_cons s_str (a_cons s_str (a_cons s_str (a_cons s_str (a_cons s_str (a_cons s_str (a_cons s_str (a_cons s_str (a_cons s_str (a_cons s_str (a_cons s_str a_nil)))))))))))))))) (ss_one (ss_ret (s_bin og_add (s_var 0) (s_lst (a_cons s_str (a_cons s_str (a_cons s_str (a_cons s_str (a_cons s_str a_nil))))))))))
theorem ok_law_words (T : Tx K w.params mg cl) (d__law_sorts : Df (wz P w K mg base cl) "_law_sorts" 1 0 g_law_sorts) {f : Addr} {fd : FuncData} (F : Fun K "_law_words" "_law_words" s_law_words f fd) (hm : mg "_law_words" = some (.ref f)) (hb : Binds K fd ["_law_one"] []) : Df (wz P w K mg base cl) "_law_words" 2 1 g_law_words_2 :=
  have nd := sc_law_words.nd
  df_mk (Y := wz P w K mg base cl) rfl rfl F sc_law_words hm hb rfl rfl fun cdv A outer s H E hr => (ss_cons (ss_set 1 nd (s_index (z_call0 d__law_sorts ⟨rfl, rfl, rfl, rfl, rfl⟩ (hr.mono (by decide)) rfl) (a_cons (s_ix2 (u1_of hr.units) (s_var 0) s_int) a_nil))) (ss_cons (ss_set 2 nd (s_bin og_mul (s_var 1) (s_bin og_pow s_int s_int))) (ss_cons (ss_if (t_cmp (og_eq hr.units) (s_var 1) s_int (by rfl)) (ss_one (ss_ret (s_lst (a_cons (s_bin og_add (s_var 2) (s_bin og_mul (s_ix2 (u1_of hr.units) (s_var 0) s_int) (s_bin og_pow s_int s_int))) (a_cons (s_ix2 (u1_of hr.units) (s_var 0) s_int) a_nil))))) ss_nil) (ss_cons (ss_if (t_cmp og_in (s_var 1) (s_tup (a_cons s_int (a_cons s_int a_nil))) (by rfl)) (ss_one (ss_ret (s_lst (a_cons (s_bin og_add (s_var 2) (s_ix2 (u1_of hr.units) (s_var 0) s_int)) a_nil)))) ss_nil) (ss_cons (ss_if (t_cmp (og_eq hr.units) (s_var 1) s_int (by rfl)) (ss_one (ss_ret (s_lst (a_cons (s_bin og_add (s_bin og_add (s_var 2) (s_bin og_mul (s_ix2 (u1_of hr.units) (s_var 0) s_int) (s_bin og_pow s_int s_int))) (s_ix2 (u1_of hr.units) (s_var 0) s_int)) a_nil)))) ss_nil) (ss_cons (ss_if (t_cmp (og_eq hr.units) (s_var 1) s_int (by rfl)) (ss_one (ss_ret (s_lst (a_cons (s_bin og_add (s_var 2) (s_bin og_mul (s_ix2 (u1_of hr.units) (s_var 0) s_int) (s_bin og_pow s_int s_int))) a_nil)))) ss_nil) (ss_cons (ss_if (t_cmp (og_eq hr.units) (s_var 1) s_int (by rfl)) (ss_one (ss_ret (s_lst (a_cons (s_var 2) a_nil)))) ss_nil) (ss_cons (ss_set 2 nd (s_bin og_add (s_bin og_add (s_var 2) (s_bin og_mul (s_ix2 (u1_of hr.units) (s_var 0) s_int) (s_bin og_pow s_int s_int))) (s_bin og_mul (s_ix2 (u1_of hr.units) (s_var 0) s_int) (s_bin og_pow s_int s_int)))) (ss_cons (ss_if (t_cmp og_in (s_var 1) (s_tup (a_cons s_int (a_cons s_int (a_cons s_int a_nil)))) (by rfl)) (ss_one (ss_ret (s_lst (a_cons (s_bin og_add (s_var 2) (s_bin og_mod (s_ix2 (u1_of hr.units) (s_var 0) s_int) (s_bin og_pow s_int s_int))) a_nil)))) ss_nil) (ss_cons (ss_if (t_cmp og_in (s_var 1) (s_tup (a_cons s_int (a_cons s_int a_nil))) (by rfl)) (ss_one (ss_ret (s_lst (a_cons (s_var 2) a_nil)))) ss_nil) (ss_one (ss_ret (s_lst (a_cons (s_bin og_add (s_var 2) (s_bin og_mul (s_ix2 (u1_of hr.units) (s_var 0) s_int) (s_bin og_pow s_int s_int))) a_nil))))))))))))))
theorem ok_law_read (T : Tx K w.params mg cl) (d__law_sorts : Df (wz P w K mg base cl) "_law_sorts" 1 0 g_law_sorts) (d__law_words : Df (wz P w K mg base cl) "_law_words" 2 1 g_law_words_2) {f : Addr} {fd : FuncData} (F : Fun K "_law_read" "_law_read" s_law_read f fd) (hm : mg "_law_read" = some (.ref f)) (hb : Binds K fd ["_law_code", "_law_at"] []) : Df (wz P w K mg base cl) "_law_read" 3 2 g_law_read_2 :=
  have nd := sc_law_read.nd
  df_mk (Y := wz P w K mg base cl) rfl rfl F sc_law_read hm hb rfl rfl fun cdv A outer s H E hr => (ss_cons (ss_if (t_pw (w_or (t_not (t_chain og_le og_lt s_int (s_var 1) (s_len rfl T.m_len (a_cons (s_var 0) a_nil)))) (w_or1 (t_cmp og_gt (s_bin og_div (s_ix2 (u1_of hr.units) (s_var 0) (s_var 1)) (s_bin og_pow s_int s_int)) s_int (by rfl))))) (ss_one (ss_ret s_non)) ss_nil) (ss_cons (ss_set 2 nd (s_ix2 (u1_of hr.units) (s_var 0) (s_var 1))) (ss_cons (ss_set 3 nd (s_bin og_div (s_var 2) (s_bin og_pow s_int s_int))) (ss_cons (ss_set 4 nd (s_ix2 (u1_of hr.units) (z_call0 d__law_sorts ⟨rfl, rfl, rfl, rfl, rfl⟩ (hr.mono (by decide)) rfl) (s_var 3))) (ss_cons (ss_unp2 rfl (gs_cons 6 nd (gs_cons 7 nd (gs_cons 8 nd (gs_cons 9 nd gs_nil)))) (s_tup (a_cons (s_bin og_mod (s_bin og_div (s_var 2) (s_bin og_pow s_int s_int)) s_int) (a_cons (s_bin og_mod (s_bin og_div (s_var 2) (s_bin og_pow s_int s_int)) s_int) (a_cons (s_bin og_mod (s_bin og_div (s_var 2) (s_bin og_pow s_int s_int)) s_int) (a_cons (s_bin og_mod (s_var 2) (s_bin og_pow s_int s_int)) a_nil)))))) (ss_cons (ss_set 5 nd (s_tup (a_cons (s_var 4) (a_cons (s_var 6) (a_cons (s_var 7) (a_cons (s_var 8) a_nil)))))) (ss_cons (ss_if (t_cmp og_in (s_var 3) (s_tup (a_cons s_int (a_cons s_int (a_cons s_int a_nil)))) (by rfl)) (ss_one (ss_set 5 nd (s_tup (a_cons (s_var 4) (a_cons (s_var 6) (a_cons (s_var 7) (a_cons (s_pick (l_lst (a_cons (s_var 9) (a_cons (s_bin og_sub (s_var 9) (s_bin og_pow s_int s_int)) a_nil))) (s_int1 rfl T.m_int (a_cons (s_cmp og_ge (s_var 9) (s_bin og_pow s_int s_int) (by rfl)) a_nil))) a_nil))))))) ss_nil) (ss_cons (ss_if (t_cmp og_in (s_var 3) (s_tup (a_cons s_int (a_cons s_int a_nil))) (by rfl)) (ss_one (ss_set 5 nd (s_tup (a_cons (s_var 4) (a_cons (s_var 9) a_nil))))) ss_nil) (ss_cons (ss_if (t_cmp (og_eq hr.units) (s_var 3) s_int (by rfl)) (ss_one (ss_set 5 nd (s_tup (a_cons (s_var 4) (a_cons (s_var 6) (a_cons (s_var 9) a_nil)))))) ss_nil) (ss_cons (ss_if (t_cmp (og_eq hr.units) (s_var 3) s_int (by rfl)) (ss_one (ss_set 5 nd (s_tup (a_cons (s_var 4) (a_cons (s_var 7) a_nil))))) ss_nil) (ss_cons (ss_if (t_cmp og_in (s_var 3) (s_tup (a_cons s_int (a_cons s_int a_nil))) (by rfl)) (ss_one (ss_set 5 nd (s_tup (a_cons (s_var 4) (a_cons (s_var 6) (a_cons (s_var 7) a_nil)))))) ss_nil) (ss_cons (ss_if (t_cmp (og_eq hr.units) (s_var 3) s_int (by rfl)) (ss_one (ss_set 5 nd (s_tup (a_cons (s_var 4) a_nil)))) ss_nil) (ss_cons (ss_if (t_cmp (og_eq hr.units) (s_var 3) s_int (by rfl)) (ss_cons (ss_if (t_cmp (og_eq2 hr.units) (s_bin og_add (s_var 1) s_int) (s_len rfl T.m_len (a_cons (s_var 0) a_nil)) (by rfl)) (ss_one (ss_ret s_non)) ss_nil) (ss_one (ss_set 5 nd (s_tup (a_cons (s_var 4) (a_cons (s_var 6) (a_cons (s_ix2 (u1_of hr.units) (s_var 0) (s_bin og_add (s_var 1) s_int)) a_nil))))))) ss_nil) (ss_cons (ss_if (t_cmp (og_ne2 hr.units) (s_ix2 (u1_of hr.units) (z_call d__law_words ⟨rfl, rfl, rfl, rfl, rfl⟩ (hr.mono (by decide)) rfl (a_cons (s_var 5) a_nil)) s_int) (s_var 2) (by rfl)) (ss_one (ss_ret s_non)) ss_nil) (ss_one (ss_ret (s_var 5)))))))))))))))))
theorem ok_law_plan (T : Tx K w.params mg cl) (d__law_draw : Df (wz P w K mg base cl) "_law_draw" 1 2 g_law_draw_3) {f : Addr} {fd : FuncData} (F : Fun K "_law_plan" "_law_plan" s_law_plan f fd) (hm : mg "_law_plan" = some (.ref f)) (hb : Binds K fd ["_law_state"] []) : Df (wz P w K mg base cl) "_law_plan" 2 1 g_law_plan_3 :=
  have nd := sc_law_plan.nd
  df_mk (Y := wz P w K mg base cl) rfl rfl F sc_law_plan hm hb rfl rfl fun cdv A outer s H E hr => (ss_cons (ss_set 1 nd (s_pick (l_lst (a_cons (z_call d__law_draw ⟨rfl, rfl, rfl, rfl, rfl⟩ (hr.mono (by decide)) rfl (a_cons (s_var 0) (a_cons s_int a_nil))) (a_cons (z_call d__law_draw ⟨rfl, rfl, rfl, rfl, rfl⟩ (hr.mono (by decide)) rfl (a_cons (s_var 0) (a_cons s_int a_nil))) a_nil))) (z_call d__law_draw ⟨rfl, rfl, rfl, rfl, rfl⟩ (hr.mono (by decide)) rfl (a_cons (s_var 0) (a_cons s_int a_nil))))) (ss_cons (ss_set 2 nd (s_bin og_mul (s_pick (l_lst (a_cons s_int (a_cons (s_bin og_sub (s_bin og_shl s_int (s_bin og_sub s_int (s_var 1))) s_int) (a_cons (z_call d__law_draw ⟨rfl, rfl, rfl, rfl, rfl⟩ (hr.mono (by decide)) rfl (a_cons (s_var 0) (a_cons (s_bin og_shl s_int (s_bin og_sub s_int (s_var 1))) a_nil))) a_nil)))) (z_call d__law_draw ⟨rfl, rfl, rfl, rfl, rfl⟩ (hr.mono (by decide)) rfl (a_cons (s_var 0) (a_cons s_int a_nil)))) (s_bin og_shl s_int (s_var 1)))) (ss_cons (ss_set 3 nd (z_call d__law_draw ⟨rfl, rfl, rfl, rfl, rfl⟩ (hr.mono (by decide)) rfl (a_cons (s_var 0) (a_cons s_int a_nil)))) (ss_one (ss_ret (s_tup (a_cons (s_var 1) (a_cons (s_var 2) (a_cons (s_var 3) (a_cons (z_call d__law_draw ⟨rfl, rfl, rfl, rfl, rfl⟩ (hr.mono (by decide)) rfl (a_cons (s_var 0) (a_cons (s_bin og_sub s_int (s_var 3)) a_nil))) (a_cons (z_call d__law_draw ⟨rfl, rfl, rfl, rfl, rfl⟩ (hr.mono (by decide)) rfl (a_cons (s_var 0) (a_cons s_int a_nil))) a_nil)))))))))))
theorem ok_law_value (T : Tx K w.params mg cl) (d__law_draw : Df (wz P w K mg base cl) "_law_draw" 1 2 g_law_draw_3) {f : Addr} {fd : FuncData} (F : Fun K "_law_value" "_law_value" s_law_value f fd) (hm : mg "_law_value" = some (.ref f)) (hb : Binds K fd ["_law_state", "_law_plan_here"] []) : Df (wz P w K mg base cl) "_law_value" 2 2 g_law_value_4 :=
  have nd := sc_law_value.nd
  df_mk (Y := wz P w K mg base cl) rfl rfl F sc_law_value hm hb rfl rfl fun cdv A outer s H E hr => (ss_cons (ss_set 2 nd (z_call d__law_draw ⟨rfl, rfl, rfl, rfl, rfl⟩ (hr.mono (by decide)) rfl (a_cons (s_var 0) (a_cons s_int a_nil)))) (ss_cons (ss_if (t_cmp (og_eq hr.units) (s_var 2) s_int (by rfl)) (ss_one (ss_ret (z_call d__law_draw ⟨rfl, rfl, rfl, rfl, rfl⟩ (hr.mono (by decide)) rfl (a_cons (s_var 0) (a_cons s_int a_nil))))) ss_nil) (ss_cons (ss_if (t_cmp (og_eq hr.units) (s_var 2) s_int (by rfl)) (ss_one (ss_ret (s_bin og_mod (s_bin og_sub (s_bin og_add (s_bin og_add (s_ix2 (u1_of hr.units) (s_var 1) s_int) (s_bin og_shl s_int (s_ix2 (u1_of hr.units) (s_var 1) s_int))) (z_call d__law_draw ⟨rfl, rfl, rfl, rfl, rfl⟩ (hr.mono (by decide)) rfl (a_cons (s_var 0) (a_cons s_int a_nil)))) s_int) (s_bin og_pow s_int s_int)))) ss_nil) (ss_cons (ss_if (t_cmp (og_eq hr.units) (s_var 2) s_int (by rfl)) (ss_one (ss_ret (s_bin og_add (s_ix2 (u1_of hr.units) (s_var 1) s_int) (z_call d__law_draw ⟨rfl, rfl, rfl, rfl, rfl⟩ (hr.mono (by decide)) rfl (a_cons (s_var 0) (a_cons (s_bin og_shl s_int (s_ix2 (u1_of hr.units) (s_var 1) s_int)) a_nil)))))) ss_nil) (ss_cons (ss_if (t_cmp (og_eq hr.units) (s_var 2) s_int (by rfl)) (ss_one (ss_ret (s_bin og_sub (s_bin og_sub (s_bin og_pow s_int s_int) s_int) (z_call d__law_draw ⟨rfl, rfl, rfl, rfl, rfl⟩ (hr.mono (by decide)) rfl (a_cons (s_var 0) (a_cons s_int a_nil)))))) ss_nil) (ss_cons (ss_if (t_cmp (og_eq hr.units) (s_var 2) s_int (by rfl)) (ss_one (ss_ret (s_bin og_mod (s_bin og_sub (s_bin og_add (s_ix2 (u1_of hr.units) (s_var 1) s_int) (z_call d__law_draw ⟨rfl, rfl, rfl, rfl, rfl⟩ (hr.mono (by decide)) rfl (a_cons (s_var 0) (a_cons s_int a_nil)))) s_int) (s_bin og_pow s_int s_int)))) ss_nil) (ss_one (ss_ret (z_call d__law_draw ⟨rfl, rfl, rfl, rfl, rfl⟩ (hr.mono (by decide)) rfl (a_cons (s_var 0) (a_cons (s_bin og_pow s_int s_int) a_nil)))))))))))
theorem ok_law_boxes (T : Tx K w.params mg cl) (d__law_value : Df (wz P w K mg base cl) "_law_value" 2 2 g_law_value_4) {f : Addr} {fd : FuncData} (F : Fun K "_law_boxes" "_law_boxes" s_law_boxes f fd) (hm : mg "_law_boxes" = some (.ref f)) (hb : Binds K fd ["_law_state", "_law_plan_here", "_law_many"] []) : Df (wz P w K mg base cl) "_law_boxes" 3 3 g_law_boxes_2 :=
  have nd := sc_law_boxes.nd
  df_mk (Y := wz P w K mg base cl) rfl rfl F sc_law_boxes hm hb rfl rfl fun cdv A outer s H E hr => (ss_one (ss_ret (s_tp rfl T.m_tuple (l_lc rfl nd (i_rng rfl T.m_range (s_var 2)) (blkOk_by (own := [("_law_k", 3)]) (N := n_law_boxes) (sc := defScope s_law_boxes) (by decide +kernel)) rfl (cg_name (by decide)) (fun _ _ _ _ _ => pg_name (i := 3) nd rfl (Or.inl rfl)) (fun _ _ _ _ _ => ts_nil) (fun _ _ _ _ _ => (z_call d__law_value ⟨rfl, rfl, rfl, rfl, rfl⟩ (hr.mono (by decide)) rfl (a_cons (s_var 0) (a_cons (s_var 1) a_nil))))))))
theorem ok_law_memory (T : Tx K w.params mg cl) (d__law_draw : Df (wz P w K mg base cl) "_law_draw" 1 2 g_law_draw_3) (d__law_value : Df (wz P w K mg base cl) "_law_value" 2 2 g_law_value_4) {f : Addr} {fd : FuncData} (F : Fun K "_law_memory" "_law_memory" s_law_memory f fd) (hm : mg "_law_memory" = some (.ref f)) (hb : Binds K fd ["_law_state", "_law_plan_here", "_law_within"] []) : Df (wz P w K mg base cl) "_law_memory" 3 3 g_law_memory :=
  have nd := sc_law_memory.nd
  df_mk (Y := wz P w K mg base cl) rfl rfl F sc_law_memory hm hb rfl rfl fun cdv A outer s H E hr => (ss_cons (ss_set 3 nd s_newD) (ss_cons (ss_for PassesOwn.never rfl (i_rng rfl T.m_range (z_call d__law_draw ⟨rfl, rfl, rfl, rfl, rfl⟩ (hr.mono (by decide)) rfl (a_cons (s_var 0) (a_cons s_int a_nil)))) (g_name 4 nd) (ss_cons (ss_set 5 nd (s_bin og_add (s_ix2 (u1_of hr.units) (s_var 1) s_int) (z_call d__law_draw ⟨rfl, rfl, rfl, rfl, rfl⟩ (hr.mono (by decide)) rfl (a_cons (s_var 0) (a_cons (s_bin og_shl s_int (s_ix2 (u1_of hr.units) (s_var 1) s_int)) a_nil))))) (ss_cons (ss_if (t_pw (w_and (t_not (t_val (s_var 2))) (w_and1 (t_cmp (og_eq hr.units) (z_call d__law_draw ⟨rfl, rfl, rfl, rfl, rfl⟩ (hr.mono (by decide)) rfl (a_cons (s_var 0) (a_cons s_int a_nil))) s_int (by rfl))))) (ss_one (ss_set 5 nd (z_call d__law_value ⟨rfl, rfl, rfl, rfl, rfl⟩ (hr.mono (by decide)) rfl (a_cons (s_var 0) (a_cons (s_var 1) a_nil))))) ss_nil) (ss_one (ss_put (set_2 (u1_of hr.units)) pu_2 (s_var 3) (s_var 5) (s_pick (l_lst (a_cons s_int (a_cons (z_call d__law_value ⟨rfl, rfl, rfl, rfl, rfl⟩ (hr.mono (by decide)) rfl (a_cons (s_var 0) (a_cons (s_var 1) a_nil))) a_nil))) (s_int1 rfl T.m_int (a_cons (s_cmp og_gt (z_call d__law_draw ⟨rfl, rfl, rfl, rfl, rfl⟩ (hr.mono (by decide)) rfl (a_cons (s_var 0) (a_cons s_int a_nil))) s_int (by rfl)) a_nil)))))))) (ss_one (ss_ret (s_var 3)))))
theorem ok_law_number (T : Tx K w.params mg cl) (d__law_draw : Df (wz P w K mg base cl) "_law_draw" 1 2 g_law_draw_3) {f : Addr} {fd : FuncData} (F : Fun K "_law_number" "_law_number" s_law_number f fd) (hm : mg "_law_number" = some (.ref f)) (hb : Binds K fd ["_law_state"] []) : Df (wz P w K mg base cl) "_law_number" 2 1 g_law_number_3 :=
  have nd := sc_law_number.nd
  df_mk (Y := wz P w K mg base cl) rfl rfl F sc_law_number hm hb rfl rfl fun cdv A outer s H E hr => (ss_cons (ss_set 1 nd (s_lst (a_cons (s_bin og_sub (z_call d__law_draw ⟨rfl, rfl, rfl, rfl, rfl⟩ (hr.mono (by decide)) rfl (a_cons (s_var 0) (a_cons s_int a_nil))) s_int) (a_cons (s_bin og_sub (z_call d__law_draw ⟨rfl, rfl, rfl, rfl, rfl⟩ (hr.mono (by decide)) rfl (a_cons (s_var 0) (a_cons (s_bin og_pow s_int s_int) a_nil))) (s_bin og_pow s_int s_int)) (a_cons (s_bin og_sub (s_bin og_pow s_int s_int) s_int) (a_cons (s_bin og_sub s_int (s_bin og_pow s_int s_int)) a_nil)))))) (ss_one (ss_ret (s_ix2 (u1_of hr.units) (s_var 1) (s_pick (l_lst (a_cons s_int (a_cons s_int (a_cons s_int (a_cons s_int (a_cons s_int (a_cons s_int (a_cons s_int (a_cons s_int a_nil))))))))) (z_call d__law_draw ⟨rfl, rfl, rfl, rfl, rfl⟩ (hr.mono (by decide)) rfl (a_cons (s_var 0) (a_cons s_int a_nil))))))))
theorem ok_law_bits (T : Tx K w.params mg cl)  {f : Addr} {fd : FuncData} (F : Fun K "_law_bits" "_law_bits" s_law_bits f fd) (hm : mg "_law_bits" = some (.ref f)) (hb : Binds K fd ["_law_word", "_law_b", "_law_c"] []) : Df (wz P w K mg base cl) "_law_bits" 1 3 g_law_bits :=
  have nd := sc_law_bits.nd
  df_mk (Y := wz P w K mg base cl) rfl rfl F sc_law_bits hm hb rfl rfl fun cdv A outer s H E hr => (ss_cons (ss_set 3 nd s_int) (ss_cons (ss_for PassesOwn.never rfl (i_rng rfl T.m_range s_int) (g_name 4 nd) (ss_cons (ss_set 5 nd (s_bin og_mod (s_bin og_div (s_var 1) (s_bin og_pow s_int s_int)) s_int)) (ss_cons (ss_set 6 nd (s_bin og_mod (s_bin og_div (s_var 2) (s_bin og_pow s_int s_int)) s_int)) (ss_cons (ss_set 1 nd (s_bin og_mod (s_bin og_mul (s_var 1) s_int) (s_bin og_pow s_int s_int))) (ss_cons (ss_set 2 nd (s_bin og_mod (s_bin og_mul (s_var 2) s_int) (s_bin og_pow s_int s_int))) (ss_cons (ss_set 7 nd (s_bin og_add (s_var 5) (s_var 6))) (ss_one (ss_set 3 nd (s_bin og_add (s_bin og_mul s_int (s_var 3)) (s_pick (l_lst (a_cons (s_int1 rfl T.m_int (a_cons (s_cmp (og_eq hr.units) (s_var 7) s_int (by rfl)) a_nil)) (a_cons (s_int1 rfl T.m_int (a_cons (s_cmp og_gt (s_var 7) s_int (by rfl)) a_nil)) (a_cons (s_int1 rfl T.m_int (a_cons (s_cmp (og_eq hr.units) (s_var 7) s_int (by rfl)) a_nil)) a_nil)))) (s_index (s_lst (a_cons s_str (a_cons s_str (a_cons s_str a_nil)))) (a_cons (s_var 0) a_nil)))))))))))) (ss_one (ss_ret (s_var 3)))))
theorem ok_law_of_two (T : Tx K w.params mg cl) (d__law_bits : Df (wz P w K mg base cl) "_law_bits" 1 3 g_law_bits) {f : Addr} {fd : FuncData} (F : Fun K "_law_of_two" "_law_of_two" s_law_of_two f fd) (hm : mg "_law_of_two" = some (.ref f)) (hb : Binds K fd ["_law_word", "_law_b", "_law_c"] []) : Df (wz P w K mg base cl) "_law_of_two" 2 3 g_law_of_two :=
  have nd := sc_law_of_two.nd
  df_mk (Y := wz P w K mg base cl) rfl rfl F sc_law_of_two hm hb rfl rfl fun cdv A outer s H E hr => (ss_cons (ss_if (t_cmp (og_eq hr.units) (s_var 0) s_str (by rfl)) (ss_one (ss_ret (s_bin og_mod (s_bin og_add (s_var 1) (s_var 2)) (s_bin og_pow s_int s_int)))) ss_nil) (ss_cons (ss_if (t_cmp (og_eq hr.units) (s_var 0) s_str (by rfl)) (ss_one (ss_ret (s_bin og_mod (s_bin og_sub (s_var 1) (s_var 2)) (s_bin og_pow s_int s_int)))) ss_nil) (ss_cons (ss_if (t_cmp (og_eq hr.units) (s_var 0) s_str (by rfl)) (ss_one (ss_ret (s_int1 rfl T.m_int (a_cons (s_cmp og_lt (s_var 1) (s_var 2) (by rfl)) a_nil)))) ss_nil) (ss_cons (ss_if (t_cmp og_in (s_var 0) (s_tup (a_cons s_str (a_cons s_str (a_cons s_str a_nil)))) (by rfl)) (ss_one (ss_ret (z_call d__law_bits ⟨rfl, rfl, rfl, rfl, rfl⟩ (hr.mono (by decide)) rfl (a_cons (s_var 0) (a_cons (s_var 1) (a_cons (s_var 2) a_nil)))))) ss_nil) (ss_cons (ss_for PassesOwn.never rfl (i_rng rfl T.m_range (s_bin og_mod (s_var 2) s_int)) (g_name 3 nd) (ss_one (ss_set 1 nd (s_pick (l_lst (a_cons (s_bin og_div (s_var 1) s_int) (a_cons (s_bin og_mod (s_bin og_mul (s_var 1) s_int) (s_bin og_pow s_int s_int)) a_nil))) (s_int1 rfl T.m_int (a_cons (s_cmp (og_eq hr.units) (s_var 0) s_str (by rfl)) a_nil)))))) (ss_one (ss_ret (s_var 1))))))))
theorem ok_law_makes (T : Tx K w.params mg cl) (d__law_of_two : Df (wz P w K mg base cl) "_law_of_two" 2 3 g_law_of_two) {f : Addr} {fd : FuncData} (F : Fun K "_law_makes" "_law_makes" s_law_makes f fd) (hm : mg "_law_makes" = some (.ref f)) (hb : Binds K fd ["_law_plan_here", "_law_one", "_law_boxes_here"] []) : Df (wz P w K mg base cl) "_law_makes" 3 3 g_law_makes_2 :=
  have nd := sc_law_makes.nd
  df_mk (Y := wz P w K mg base cl) rfl rfl F sc_law_makes hm hb rfl rfl fun cdv A outer s H E hr => (ss_cons (ss_if (t_cmp (og_eq hr.units) (s_ix2 (u1_of hr.units) (s_var 1) s_int) s_str (by rfl)) (ss_one (ss_ret (s_ix2 (u1_of hr.units) (s_var 1) s_int))) ss_nil) (ss_cons (ss_if (t_cmp (og_eq hr.units) (s_ix2 (u1_of hr.units) (s_var 1) s_int) s_str (by rfl)) (ss_one (ss_ret (s_bin og_mod (s_bin og_add (s_ix2 (u1_of hr.units) (s_var 2) (s_ix2 (u1_of hr.units) (s_var 1) s_int)) (s_ix2 (u1_of hr.units) (s_var 1) s_int)) (s_bin og_pow s_int s_int)))) ss_nil) (ss_cons (ss_if (t_cmp (og_eq hr.units) (s_ix2 (u1_of hr.units) (s_var 1) s_int) s_str (by rfl)) (ss_one (ss_ret (s_bin og_add (s_ix2 (u1_of hr.units) (s_var 0) s_int) (s_bin og_mod (s_ix2 (u1_of hr.units) (s_var 2) (s_ix2 (u1_of hr.units) (s_var 1) s_int)) (s_bin og_shl s_int (s_ix2 (u1_of hr.units) (s_var 0) s_int)))))) ss_nil) (ss_cons (ss_if (t_cmp (og_eq hr.units) (s_ix2 (u1_of hr.units) (s_var 1) s_int) s_str (by rfl)) (ss_one (ss_ret (s_bin og_mul (s_bin og_mul (s_bin og_mod (s_ix2 (u1_of hr.units) (s_var 2) (s_ix2 (u1_of hr.units) (s_var 1) s_int)) (s_bin og_shl s_int (s_ix2 (u1_of hr.units) (s_var 0) s_int))) s_int) (s_bin og_shl s_int (s_ix2 (u1_of hr.units) (s_var 0) s_int))))) ss_nil) (ss_cons (ss_if (t_cmp og_in (s_ix2 (u1_of hr.units) (s_var 1) s_int) (s_tup (a_cons s_str (a_cons s_str (a_cons s_str (a_cons s_str (a_cons s_str (a_cons s_str (a_cons s_str (a_cons s_str a_nil))))))))) (by rfl)) (ss_one (ss_ret (z_call d__law_of_two ⟨rfl, rfl, rfl, rfl, rfl⟩ (hr.mono (by decide)) rfl (a_cons (s_ix2 (u1_of hr.units) (s_var 1) s_int) (a_cons (s_ix2 (u1_of hr.units) (s_var 2) (s_ix2 (u1_of hr.units) (s_var 1) s_int)) (a_cons (s_ix2 (u1_of hr.units) (s_var 2) (s_ix2 (u1_of hr.units) (s_var 1) s_int)) a_nil)))))) ss_nil) (ss_one (ss_ret s_non)))))))
theorem ok_law_goes (T : Tx K w.params mg cl)  {f : Addr} {fd : FuncData} (F : Fun K "_law_goes" "_law_goes" s_law_goes f fd) (hm : mg "_law_goes" = some (.ref f)) (hb : Binds K fd ["_law_one", "_law_place", "_law_boxes_here"] []) : Df (wz P w K mg base cl) "_law_goes" 1 3 g_law_goes_1 :=
  have nd := sc_law_goes.nd
  df_mk (Y := wz P w K mg base cl) rfl rfl F sc_law_goes hm hb rfl rfl fun cdv A outer s H E hr => (ss_cons (ss_if (t_pw (w_or (t_cmp (og_eq hr.units) (s_ix2 (u1_of hr.units) (s_var 0) s_int) s_str (by rfl)) (w_or1 (t_pw (w_and (t_cmp (og_eq hr.units) (s_ix2 (u1_of hr.units) (s_var 0) s_int) s_str (by rfl)) (w_and1 (t_cmp (og_ne hr.units) (s_ix2 (u1_of hr.units) (s_var 2) (s_ix2 (u1_of hr.units) (s_var 0) s_int)) s_int (by rfl)))))))) (ss_one (ss_ret (s_ix2 (u1_of hr.units) (s_var 0) (s_neg s_int)))) ss_nil) (ss_cons (ss_if (t_cmp (og_eq hr.units) (s_ix2 (u1_of hr.units) (s_var 0) s_int) s_str (by rfl)) (ss_one (ss_ret (s_ix2 (u1_of hr.units) (s_var 2) (s_ix2 (u1_of hr.units) (s_var 0) s_int)))) ss_nil) (ss_one (ss_ret (s_bin og_add (s_bin og_add (s_var 1) s_int) (s_int1 rfl T.m_int (a_cons (s_cmp (og_eq hr.units) (s_ix2 (u1_of hr.units) (s_var 0) s_int) s_str (by rfl)) a_nil)))))))
theorem ok_law_reach (T : Tx K w.params mg cl)  {f : Addr} {fd : FuncData} (F : Fun K "_law_reach" "_law_reach" s_law_reach f fd) (hm : mg "_law_reach" = some (.ref f)) (hb : Binds K fd ["_law_plan_here", "_law_one", "_law_boxes_here", "_law_memory_here"] []) : Df (wz P w K mg base cl) "_law_reach" 1 4 g_law_reach :=
  have nd := sc_law_reach.nd
  df_mk (Y := wz P w K mg base cl) rfl rfl F sc_law_reach hm hb rfl rfl fun cdv A outer s H E hr => (ss_cons (ss_set 4 nd (s_bin og_mod (s_bin og_add (s_ix2 (u1_of hr.units) (s_var 2) (s_ix2 (u1_of hr.units) (s_var 1) s_int)) (s_ix2 (u1_of hr.units) (s_var 1) s_int)) (s_bin og_pow s_int s_int))) (ss_cons (ss_if (t_not (t_chain og_le og_lt (s_ix2 (u1_of hr.units) (s_var 0) s_int) (s_var 4) (s_bin og_add (s_ix2 (u1_of hr.units) (s_var 0) s_int) (s_bin og_shl s_int (s_ix2 (u1_of hr.units) (s_var 0) s_int))))) (ss_one (ss_ret (s_var 4))) ss_nil) (ss_cons (ss_if (t_cmp (og_eq hr.units) (s_ix2 (u1_of hr.units) (s_var 1) s_int) s_str (by rfl)) (ss_one (ss_put (set_2 (u1_of hr.units)) pu_2 (s_var 3) (s_var 4) (s_ix2 (u1_of hr.units) (s_var 2) (s_ix2 (u1_of hr.units) (s_var 1) s_int)))) (ss_one (ss_put (set_2 (u1_of hr.units)) pu_2 (s_var 2) (s_ix2 (u1_of hr.units) (s_var 1) s_int) (s_getD (u1_of hr.units) (s_var 3) (s_var 4) s_int ⟨rfl, rfl, rfl, rfl⟩)))) (ss_one (ss_ret s_non)))))
theorem ok_law_gate (T : Tx K w.params mg cl)  {f : Addr} {fd : FuncData} (F : Fun K "_law_gate" "_law_gate" s_law_gate f fd) (hm : mg "_law_gate" = some (.ref f)) (hb : Binds K fd ["_law_plan_here", "_law_n", "_law_boxes_here", "_law_memory_here", "_law_rows", "_law_replies"] []) : Df (wz P w K mg base cl) "_law_gate" 1 6 g_law_gate :=
  have nd := sc_law_gate.nd
  df_mk (Y := wz P w K mg base cl) rfl rfl F sc_law_gate hm hb rfl rfl fun cdv A outer s H E hr => (ss_cons (ss_if (t_cmp og_ge (s_var 1) (s_ix2 (u1_of hr.units) (s_var 0) s_int) (by rfl)) (ss_one (ss_ret (s_tup (a_cons s_str a_nil)))) ss_nil) (ss_cons (ss_drop (s_app (s_var 4) (a_cons (s_tup (a_cons (s_var 1) (a_cons (s_tuple1 rfl T.m_tuple (a_cons (s_var 2) a_nil)) (a_cons (s_dict1 rfl T.m_dict (a_cons (s_var 3) a_nil)) a_nil)))) a_nil))) (ss_cons (ss_if (t_cmp og_gt (s_len rfl T.m_len (a_cons (s_var 4) a_nil)) (s_len rfl T.m_len (a_cons (s_var 5) a_nil)) (by rfl)) (ss_one (ss_ret (s_tup (a_cons s_str (a_cons (s_var 1) a_nil))))) ss_nil) (ss_cons (ss_unp2 rfl (gs_cons 8 nd (gs_cons 9 nd gs_nil)) (s_ix2 (u1_of hr.units) (s_var 5) (s_bin og_sub (s_len rfl T.m_len (a_cons (s_var 4) a_nil)) s_int))) (ss_cons (ss_for PassesOwn.never rfl (i_rng rfl T.m_range s_int) (g_name 6 nd) (ss_one (ss_put (set_2 (u1_of hr.units)) pu_2 (s_var 2) (s_var 6) (s_ix2 (u1_of hr.units) (s_var 8) (s_var 6))))) (ss_cons (ss_lock (i := 9) (ss_for PassesOwn.never rfl (i_keysF 9) (g_name 7 nd) (ss_one (ss_put (set_2 (u1_of hr.units)) pu_2 (s_var 3) (s_var 7) (s_ix2 (u1_of hr.units) (s_var 9) (s_var 7)))))) (ss_one (ss_ret s_non))))))))
theorem ok_law_run (T : Tx K w.params mg cl) (d__law_read : Df (wz P w K mg base cl) "_law_read" 3 2 g_law_read_2) (d__law_makes : Df (wz P w K mg base cl) "_law_makes" 3 3 g_law_makes_2) (d__law_gate : Df (wz P w K mg base cl) "_law_gate" 1 6 g_law_gate) (d__law_reach : Df (wz P w K mg base cl) "_law_reach" 1 4 g_law_reach) (d__law_goes : Df (wz P w K mg base cl) "_law_goes" 1 3 g_law_goes_1) {f : Addr} {fd : FuncData} (F : Fun K "_law_run" "_law_run" s_law_run f fd) (hm : mg "_law_run" = some (.ref f)) (hb : Binds K fd ["_law_plan_here", "_law_code", "_law_stand", "_law_replies", "_law_most"] []) : Df (wz P w K mg base cl) "_law_run" 4 5 g_law_run :=
  have nd := sc_law_run.nd
  df_mk (Y := wz P w K mg base cl) rfl rfl F sc_law_run hm hb rfl rfl fun cdv A outer s H E hr => (ss_cons (ss_par3 rfl nd (a_cons (s_ix2 (u1_of hr.units) (s_var 2) s_int) (a_cons (s_list1 rfl T.m_list (a_cons (s_ix2 (u1_of hr.units) (s_var 2) s_int) a_nil)) (a_cons (s_dict1 rfl T.m_dict (a_cons (s_ix2 (u1_of hr.units) (s_var 2) s_int) a_nil)) a_nil)))) (ss_cons (ss_set 5 nd (s_lst a_nil)) (ss_cons (ss_set 6 nd s_int) (ss_cons (ss_set 7 nd s_non) (ss_cons (ss_while PassesOwn.never (t_isN (s_var 7)) (ss_cons (ss_set 11 nd (z_call d__law_read ⟨rfl, rfl, rfl, rfl, rfl⟩ (hr.mono (by decide)) rfl (a_cons (s_var 1) (a_cons (s_var 8) a_nil)))) (ss_one (ss_if (t_isN (s_var 11)) (ss_one (ss_set 7 nd (s_tup (a_cons s_str a_nil)))) (ss_one (ss_if (t_cmp (og_eq2 hr.units) (s_var 6) (s_var 4) (by rfl)) (ss_one (ss_set 7 nd (s_tup (a_cons s_str a_nil)))) (ss_cons (ss_set 6 nd (s_bin og_add (s_var 6) s_int)) (ss_cons (ss_set 12 nd (z_call d__law_makes ⟨rfl, rfl, rfl, rfl, rfl⟩ (hr.mono (by decide)) rfl (a_cons (s_var 0) (a_cons (s_var 11) (a_cons (s_var 9) a_nil))))) (ss_cons (ss_if (t_cmp (og_eq hr.units) (s_ix2 (u1_of hr.units) (s_var 11) s_int) s_str (by rfl)) (ss_one (ss_set 7 nd (s_tup (a_cons s_str a_nil)))) (ss_one (ss_if (t_cmp (og_eq hr.units) (s_ix2 (u1_of hr.units) (s_var 11) s_int) s_str (by rfl)) (ss_one (ss_set 7 nd (z_call d__law_gate ⟨rfl, rfl, rfl, rfl, rfl⟩ (hr.mono (by decide)) rfl (a_cons (s_var 0) (a_cons (s_ix2 (u1_of hr.units) (s_var 11) s_int) (a_cons (s_var 9) (a_cons (s_var 10) (a_cons (s_var 5) (a_cons (s_var 3) a_nil))))))))) (ss_one (ss_if (t_cmp og_in (s_ix2 (u1_of hr.units) (s_var 11) s_int) (s_tup (a_cons s_str (a_cons s_str a_nil))) (by rfl)) (ss_cons (ss_set 13 nd (z_call d__law_reach ⟨rfl, rfl, rfl, rfl, rfl⟩ (hr.mono (by decide)) rfl (a_cons (s_var 0) (a_cons (s_var 11) (a_cons (s_var 9) (a_cons (s_var 10) a_nil)))))) (ss_one (ss_if (t_notN (s_var 13)) (ss_one (ss_set 7 nd (s_tup (a_cons s_str (a_cons (s_var 13) a_nil))))) ss_nil))) (ss_one (ss_if (t_notN (s_var 12)) (ss_one (ss_put (set_2 (u1_of hr.units)) pu_2 (s_var 9) (s_ix2 (u1_of hr.units) (s_var 11) s_int) (s_var 12))) ss_nil))))))) (ss_one (ss_if (t_isN (s_var 7)) (ss_one (ss_set 8 nd (z_call d__law_goes ⟨rfl, rfl, rfl, rfl, rfl⟩ (hr.mono (by decide)) rfl (a_cons (s_var 11) (a_cons (s_var 8) (a_cons (s_var 9) a_nil)))))) ss_nil))))))))))) (ss_one (ss_ret (s_tup (a_cons (s_var 7) (a_cons (s_tup (a_cons (s_var 8) (a_cons (s_tuple1 rfl T.m_tuple (a_cons (s_var 9) a_nil)) (a_cons (s_var 10) a_nil)))) (a_cons (s_var 5) (a_cons (s_var 6) a_nil))))))))))))
theorem ok_law_whole (T : Tx K w.params mg cl)  {f : Addr} {fd : FuncData} (F : Fun K "_law_whole" "_law_whole" s_law_whole f fd) (hm : mg "_law_whole" = some (.ref f)) (hb : Binds K fd ["_law_found"] []) : Df (wz P w K mg base cl) "_law_whole" 1 1 g_law_whole_1 :=
  have nd := sc_law_whole.nd
  df_mk (Y := wz P w K mg base cl) rfl rfl F sc_law_whole hm hb rfl rfl fun cdv A outer s H E hr => (ss_one (ss_ret (s_and (s_isi rfl T.m_isinstance rfl T.m_int (by decide +kernel) (s_var 0)) (s_one (s_not (s_isi rfl T.m_isinstance rfl T.m_bool (by decide +kernel) (s_var 0)))))))
theorem ok_law_alike (T : Tx K w.params mg cl) (d__law_whole : Df (wz P w K mg base cl) "_law_whole" 1 1 g_law_whole_1) {lv : Nat} {g : List D → Cm D} (hl : 1 ≤ lv) (d__law_alike : Df (wz P w K mg base cl) "_law_alike" lv 2 g) {f : Addr} {fd : FuncData} (F : Fun K "_law_alike" "_law_alike" s_law_alike f fd) (hm : mg "_law_alike" = some (.ref f)) (hb : Binds K fd ["_law_found", "_law_due"] []) : Df (wz P w K mg base cl) "_law_alike" (lv + 1) 2 (dfn 2 5 (c_law_alike_3 g)) :=
  have nd := sc_law_alike.nd
  df_mk (Y := wz P w K mg base cl) rfl rfl F sc_law_alike hm hb rfl rfl fun cdv A outer s H E hr => (ss_cons (ss_if (t_pw (w_or (t_val (s_isi rfl T.m_isinstance rfl T.m_tuple (by decide +kernel) (s_var 1))) (w_or1 (t_val (s_isi rfl T.m_isinstance rfl T.m_list (by decide +kernel) (s_var 1)))))) (ss_cons (ss_if (t_pw (w_or (t_cmp (og_ne2 hr.units) (s_isi rfl T.m_isinstance rfl T.m_tuple (by decide +kernel) (s_var 0)) (s_isi rfl T.m_isinstance rfl T.m_tuple (by decide +kernel) (s_var 1)) (by rfl)) (w_or1 (t_cmp (og_ne2 hr.units) (s_isi rfl T.m_isinstance rfl T.m_list (by decide +kernel) (s_var 0)) (s_isi rfl T.m_isinstance rfl T.m_list (by decide +kernel) (s_var 1)) (by rfl))))) (ss_one (ss_ret s_bl)) ss_nil) (ss_one (ss_ret (s_and (s_cmp (og_eq2 hr.units) (s_len rfl T.m_len (a_cons (s_var 0) a_nil)) (s_len rfl T.m_len (a_cons (s_var 1) a_nil)) (by rfl)) (s_one (s_allA rfl rfl T.m_all (l_lc rfl nd (i_zip rfl T.m_zip (s_var 0) (s_var 1)) (blkOk_by (own := [("_law_it", 2), ("_law_other", 3)]) (N := n_law_alike) (sc := defScope s_law_alike) (by decide +kernel)) rfl (cg_two (by decide) (by decide)) (fun _ _ _ _ _ => pg_tup (by rfl) (pgs_cons (pg_name (i := 2) nd rfl (Or.inl rfl)) (pgs_cons (pg_name (i := 3) nd rfl (Or.inl rfl)) pgs_nil))) (fun _ _ _ _ _ => ts_nil) (fun _ _ _ _ _ => (z_call d__law_alike ⟨rfl, rfl, rfl, rfl, rfl⟩ (hr.mono (Nat.le_refl _)) rfl (a_cons (s_var 2) (a_cons (s_var 3) a_nil))))))))))) ss_nil) (ss_cons (ss_if (t_val (s_isi rfl T.m_isinstance rfl T.m_dict (by decide +kernel) (s_var 1))) (ss_cons (ss_if (t_pw (w_or (t_not (t_val (s_isi rfl T.m_isinstance rfl T.m_dict (by decide +kernel) (s_var 0)))) (w_or1 (t_not (t_val (s_allA rfl rfl T.m_all (l_lock (i := 0) (l_lc rfl nd (i_keysF 0) (blkOk_by (own := [("_law_place", 4)]) (N := n_law_alike) (sc := defScope s_law_alike) (by decide +kernel)) rfl (cg_name (by decide)) (fun _ _ _ _ _ => pg_name (i := 4) nd rfl (Or.inl rfl)) (fun _ _ _ _ _ => ts_nil) (fun _ _ _ _ _ => (z_call d__law_whole ⟨rfl, rfl, rfl, rfl, rfl⟩ (hr.mono (Nat.le_trans (by decide) hl)) rfl (a_cons (s_ix2 (u1_of hr.units) (s_var 0) (s_var 4)) a_nil))))))))))) (ss_one (ss_ret s_bl)) ss_nil) (ss_one (ss_ret (s_cmp (og_eq2 hr.units) (s_var 0) (s_var 1) (by rfl))))) ss_nil) (ss_one (ss_ret (s_and (s_or (z_call d__law_whole ⟨rfl, rfl, rfl, rfl, rfl⟩ (hr.mono (Nat.le_trans (by decide) hl)) rfl (a_cons (s_var 0) a_nil)) (s_one (s_isi rfl T.m_isinstance rfl T.m_str (by decide +kernel) (s_var 0)))) (s_one (s_cmp (og_eq2 hr.units) (s_var 0) (s_var 1) (by rfl))))))))
theorem on_law_alike {lv : Nat} {f : Addr} {fd : FuncData} (F : Fun K "_law_alike" "_law_alike" s_law_alike f fd) (hm : mg "_law_alike" = some (.ref f)) (hb : Binds K fd ["_law_found", "_law_due"] []) : Df (wz P w K mg base cl) "_law_alike" (lv + 1) 2 (dfn 2 5 fun _ => noC) :=
  df_mk (Y := wz P w K mg base cl) rfl rfl F sc_law_alike hm hb rfl rfl fun cdv A outer s H E hr => ss_none
theorem ok_law_straight (T : Tx K w.params mg cl) (d__law_draw : Df (wz P w K mg base cl) "_law_draw" 1 2 g_law_draw_3) (d__law_words : Df (wz P w K mg base cl) "_law_words" 2 1 g_law_words_2) (d__law_number : Df (wz P w K mg base cl) "_law_number" 2 1 g_law_number_3) {f : Addr} {fd : FuncData} (F : Fun K "_law_straight" "_law_straight" s_law_straight f fd) (hm : mg "_law_straight" = some (.ref f)) (hb : Binds K fd ["_law_state", "_law_plan_here"] []) : Df (wz P w K mg base cl) "_law_straight" 3 2 g_law_straight_1 :=
  have nd := sc_law_straight.nd
  df_mk (Y := wz P w K mg base cl) rfl rfl F sc_law_straight hm hb rfl rfl fun cdv A outer s H E hr => (ss_cons (ss_set 2 nd (s_lst a_nil)) (ss_cons (ss_for PassesOwn.never rfl (i_rng rfl T.m_range (z_call d__law_draw ⟨rfl, rfl, rfl, rfl, rfl⟩ (hr.mono (by decide)) rfl (a_cons (s_var 0) (a_cons s_int a_nil)))) (g_name 3 nd) (ss_cons (ss_if (t_cmp (og_eq hr.units) (z_call d__law_draw ⟨rfl, rfl, rfl, rfl, rfl⟩ (hr.mono (by decide)) rfl (a_cons (s_var 0) (a_cons s_int a_nil))) s_int (by rfl)) (ss_one (ss_drop (s_ext (s_var 2) (a_cons (z_call d__law_words ⟨rfl, rfl, rfl, rfl, rfl⟩ (hr.mono (by decide)) rfl (a_cons (s_tup (a_cons s_str (a_cons (z_call d__law_draw ⟨rfl, rfl, rfl, rfl, rfl⟩ (hr.mono (by decide)) rfl (a_cons (s_var 0) (a_cons (s_bin og_pow s_int s_int) a_nil))) a_nil))) a_nil)) a_nil)))) (ss_one (ss_drop (s_ext (s_var 2) (a_cons (z_call d__law_words ⟨rfl, rfl, rfl, rfl, rfl⟩ (hr.mono (by decide)) rfl (a_cons (s_tup (a_cons s_str (a_cons (z_call d__law_draw ⟨rfl, rfl, rfl, rfl, rfl⟩ (hr.mono (by decide)) rfl (a_cons (s_var 0) (a_cons (s_max rfl rfl T.m_max (a_cons s_int (a_cons (s_ix2 (u1_of hr.units) (s_var 1) s_int) a_nil))) a_nil))) a_nil))) a_nil)) a_nil))))) (ss_one (ss_for PassesOwn.never rfl (i_rng rfl T.m_range (z_call d__law_draw ⟨rfl, rfl, rfl, rfl, rfl⟩ (hr.mono (by decide)) rfl (a_cons (s_var 0) (a_cons s_int a_nil)))) (g_name 4 nd) (ss_cons (ss_set 5 nd (z_call d__law_draw ⟨rfl, rfl, rfl, rfl, rfl⟩ (hr.mono (by decide)) rfl (a_cons (s_var 0) (a_cons s_int a_nil)))) (ss_cons (ss_set 6 nd (z_call d__law_draw ⟨rfl, rfl, rfl, rfl, rfl⟩ (hr.mono (by decide)) rfl (a_cons (s_var 0) (a_cons s_int a_nil)))) (ss_cons (ss_set 7 nd (s_pick (l_lst (a_cons s_str (a_cons s_str (a_cons s_str a_nil)))) (z_call d__law_draw ⟨rfl, rfl, rfl, rfl, rfl⟩ (hr.mono (by decide)) rfl (a_cons (s_var 0) (a_cons s_int a_nil))))) (ss_cons (ss_drop (s_ext (s_var 2) (a_cons (s_bin og_mul (z_call d__law_words ⟨rfl, rfl, rfl, rfl, rfl⟩ (hr.mono (by decide)) rfl (a_cons (s_tup (a_cons s_str (a_cons (s_var 5) (a_cons (s_var 6) a_nil)))) a_nil)) (s_int1 rfl T.m_int (a_cons (s_cmp (og_ne hr.units) (s_var 7) s_str (by rfl)) a_nil))) a_nil))) (ss_one (ss_drop (s_ext (s_var 2) (a_cons (z_call d__law_words ⟨rfl, rfl, rfl, rfl, rfl⟩ (hr.mono (by decide)) rfl (a_cons (s_tup (a_cons (s_var 7) (a_cons (z_call d__law_draw ⟨rfl, rfl, rfl, rfl, rfl⟩ (hr.mono (by decide)) rfl (a_cons (s_var 0) (a_cons s_int a_nil))) (a_cons (s_var 5) (a_cons (s_pick (l_lst (a_cons s_int (a_cons (z_call d__law_number ⟨rfl, rfl, rfl, rfl, rfl⟩ (hr.mono (by decide)) rfl (a_cons (s_var 0) a_nil)) a_nil))) (s_int1 rfl T.m_int (a_cons (s_cmp (og_eq hr.units) (s_var 7) s_str (by rfl)) a_nil))) a_nil))))) a_nil)) a_nil)))))))))))) (ss_one (ss_ret (s_bin og_add (s_var 2) (s_lst (a_cons s_int a_nil)))))))
theorem ok_law (T : Tx K w.params mg cl) (d__law_plan : Df (wz P w K mg base cl) "_law_plan" 2 1 g_law_plan_3) (d__law_straight : Df (wz P w K mg base cl) "_law_straight" 3 2 g_law_straight_1) (d__law_boxes : Df (wz P w K mg base cl) "_law_boxes" 3 3 g_law_boxes_2) (d__law_memory : Df (wz P w K mg base cl) "_law_memory" 3 3 g_law_memory) (d__law_draw : Df (wz P w K mg base cl) "_law_draw" 1 2 g_law_draw_3) (d__law_run : Df (wz P w K mg base cl) "_law_run" 4 5 g_law_run) (d_run : Df (wz P w K mg base cl) "run" 4 5 g_run) (d__law_alike : Df (wz P w K mg base cl) "_law_alike" 8 2 g_law_alike_3) {f : Addr} {fd : FuncData} (F : Fun K "law" "law" s_law_k33 f fd) : FnOk P w K mg base CX0 9 f fd ["_law_script"] (spOf K cl (fun _ => F0) 1 g_law_k33_1) :=
  have nd := sc_law_k33.nd
  fn_mk (Y := wz P w K mg base cl) rfl rfl F sc_law_k33 rfl rfl fun cdv A outer s H E hr => (ss_cons (ss_set 1 nd (s_lst (a_cons (s_var 0) (a_cons s_int (a_cons s_int a_nil))))) (ss_cons (ss_set 2 nd (z_call d__law_plan ⟨rfl, rfl, rfl, rfl, rfl⟩ (hr.mono (by decide)) rfl (a_cons (s_var 1) a_nil))) (ss_cons (ss_set 3 nd (z_call d__law_straight ⟨rfl, rfl, rfl, rfl, rfl⟩ (hr.mono (by decide)) rfl (a_cons (s_var 1) (a_cons (s_var 2) a_nil)))) (ss_cons (ss_set 4 nd (z_call d__law_boxes ⟨rfl, rfl, rfl, rfl, rfl⟩ (hr.mono (by decide)) rfl (a_cons (s_var 1) (a_cons (s_var 2) (a_cons s_int a_nil))))) (ss_cons (ss_set 5 nd (s_tup (a_cons s_int (a_cons (s_var 4) (a_cons (z_call d__law_memory ⟨rfl, rfl, rfl, rfl, rfl⟩ (hr.mono (by decide)) rfl (a_cons (s_var 1) (a_cons (s_var 2) (a_cons s_bl a_nil)))) a_nil))))) (ss_cons (ss_setLc (i := 6) rfl nd rfl rfl (sw_true rfl rfl rfl (by decide +kernel)) (i_rng rfl T.m_range (z_call d__law_draw ⟨rfl, rfl, rfl, rfl, rfl⟩ (hr.mono (by decide)) rfl (a_cons (s_var 1) (a_cons s_int a_nil)))) (blkOk_by (own := [("_law_k", 12)]) (N := n_law_k33) (sc := defScope s_law_k33) (by decide +kernel)) rfl (cg_name (by decide)) (fun _ _ _ _ _ => pg_name (i := 12) nd rfl (Or.inl rfl)) (fun _ _ _ _ _ => ts_nil) (fun _ _ _ _ _ => (s_tup (a_cons (z_call d__law_boxes ⟨rfl, rfl, rfl, rfl, rfl⟩ (hr.mono (by decide)) rfl (a_cons (s_var 1) (a_cons (s_var 2) (a_cons s_int a_nil)))) (a_cons (z_call d__law_memory ⟨rfl, rfl, rfl, rfl, rfl⟩ (hr.mono (by decide)) rfl (a_cons (s_var 1) (a_cons (s_var 2) (a_cons s_bl a_nil)))) a_nil))))) (ss_cons (ss_set 7 nd (s_pick (l_lst (a_cons s_int (a_cons (z_call d__law_draw ⟨rfl, rfl, rfl, rfl, rfl⟩ (hr.mono (by decide)) rfl (a_cons (s_var 1) (a_cons s_int a_nil))) a_nil))) (s_int1 rfl T.m_int (a_cons (s_cmp (og_eq hr.units) (z_call d__law_draw ⟨rfl, rfl, rfl, rfl, rfl⟩ (hr.mono (by decide)) rfl (a_cons (s_var 1) (a_cons s_int a_nil))) s_int (by rfl)) a_nil)))) (ss_cons (ss_set 8 nd (z_call d__law_run ⟨rfl, rfl, rfl, rfl, rfl⟩ (hr.mono (by decide)) rfl (a_cons (s_var 2) (a_cons (s_var 3) (a_cons (s_var 5) (a_cons (s_var 6) (a_cons (s_var 7) a_nil))))))) (ss_cons (ss_setLc (i := 9) rfl nd rfl rfl (sw_true rfl rfl rfl (by decide +kernel)) (i_seq (s_var 6)) (blkOk_by (own := [("_law_told", 13), ("_law_writes", 14)]) (N := n_law_k33) (sc := defScope s_law_k33) (by decide +kernel)) rfl (cg_two (by decide) (by decide)) (fun _ _ _ _ _ => pg_tup (by rfl) (pgs_cons (pg_name (i := 13) nd rfl (Or.inl rfl)) (pgs_cons (pg_name (i := 14) nd rfl (Or.inl rfl)) pgs_nil))) (fun _ _ _ _ _ => ts_nil) (fun _ _ _ _ _ => (s_tup (a_cons (s_var 13) (a_cons (s_dict1 rfl T.m_dict (a_cons (s_var 14) a_nil)) a_nil))))) (ss_cons (ss_set 10 nd (s_dict1 rfl T.m_dict (a_cons (s_ix2 (u1_of hr.units) (s_var 5) s_int) a_nil))) (ss_cons (ss_set 11 nd (z_call d_run ⟨rfl, rfl, rfl, rfl, rfl⟩ (hr.mono (by decide)) rfl (a_cons (s_var 2) (a_cons (s_var 3) (a_cons (s_var 5) (a_cons (s_var 9) (a_cons (s_var 7) a_nil))))))) (ss_cons (ss_if (t_pw (w_or (t_not (t_val (z_call d__law_alike ⟨rfl, rfl, rfl, rfl, rfl⟩ (hr.mono (by decide)) rfl (a_cons (s_var 11) (a_cons (s_var 8) a_nil))))) (w_or (t_not (t_val (z_call d__law_alike ⟨rfl, rfl, rfl, rfl, rfl⟩ (hr.mono (by decide)) rfl (a_cons (s_var 9) (a_cons (s_var 6) a_nil))))) (w_or1 (t_cmp (og_ne2 hr.units) (s_ix2 (u1_of hr.units) (s_var 5) s_int) (s_var 10) (by rfl)))))) (ss_one (ss_ret s_bl)) ss_nil) (ss_cons (ss_if (t_pw (w_or (t_cmp (og_ne2 hr.units) (s_ix2 (u1_of hr.units) (s_ix2 (u1_of hr.units) (s_ix2 (u1_of hr.units) (s_var 11) s_int) s_int) s_int) (s_ix2 (u1_of hr.units) (s_ix2 (u1_of hr.units) (s_var 5) s_int) s_int) (by rfl)) (w_or1 (t_not (t_val (s_allA rfl rfl T.m_all (l_lc rfl nd (i_seq (s_ix2 (u1_of hr.units) (s_var 11) s_int)) (blkOk_by (own := [("_law_row", 15)]) (N := n_law_k33) (sc := defScope s_law_k33) (by decide +kernel)) rfl (cg_name (by decide)) (fun _ _ _ _ _ => pg_name (i := 15) nd rfl (Or.inl rfl)) (fun _ _ _ _ _ => ts_nil) (fun _ _ _ _ _ => (s_cmp (og_eq2 hr.units) (s_ix2 (u1_of hr.units) (s_ix2 (u1_of hr.units) (s_var 15) s_int) s_int) (s_ix2 (u1_of hr.units) (s_ix2 (u1_of hr.units) (s_var 5) s_int) s_int) (by rfl)))))))))) (ss_one (ss_ret s_bl)) ss_nil) (ss_cons (ss_drop (s_clearD (s_ix2 (u1_of hr.units) (s_ix2 (u1_of hr.units) (s_var 11) s_int) s_int))) (ss_cons (ss_for PassesOwn.never rfl (i_rng rfl T.m_range (s_len rfl T.m_len (a_cons (s_ix2 (u1_of hr.units) (s_var 8) s_int) a_nil))) (g_name 12 nd) (ss_cons (ss_if (t_not (t_val (z_call d__law_alike ⟨rfl, rfl, rfl, rfl, rfl⟩ (hr.mono (by decide)) rfl (a_cons (s_sl (s_ix2 (u1_of hr.units) (s_var 11) s_int) (o_some (s_var 12)) o_none) (a_cons (s_sl (s_ix2 (u1_of hr.units) (s_var 8) s_int) (o_some (s_var 12)) o_none) a_nil))))) (ss_one (ss_ret s_bl)) ss_nil) (ss_one (ss_drop (s_clearD (s_ix2 (u1_of hr.units) (s_ix2 (u1_of hr.units) (s_ix2 (u1_of hr.units) (s_var 11) s_int) (s_var 12)) s_int)))))) (ss_cons (ss_drop (s_clear (s_ix2 (u1_of hr.units) (s_var 11) s_int))) (ss_one (ss_ret (s_and (z_call d__law_alike ⟨rfl, rfl, rfl, rfl, rfl⟩ (hr.mono (by decide)) rfl (a_cons (z_call d_run ⟨rfl, rfl, rfl, rfl, rfl⟩ (hr.mono (by decide)) rfl (a_cons (s_var 2) (a_cons (s_var 3) (a_cons (s_var 5) (a_cons (s_var 9) (a_cons (s_var 7) a_nil)))))) (a_cons (s_var 8) a_nil))) (s_one (z_call d__law_alike ⟨rfl, rfl, rfl, rfl, rfl⟩ (hr.mono (by decide)) rfl (a_cons (s_var 9) (a_cons (s_var 6) a_nil)))))))))))))))))))))))
end
theorem all_mk {l : PySem.W.OpenLaw} {w : World} {K : PySem.W.Frag} {h : Heap} {mg : Str → Option Value} {fa f0 f1 f2 f3 f4 f5 f6 f7 f8 f9 f10 f11 f12 f13 f14 f15 f16 f17 f18 f19 f20 f21 f22 f23 f24 f25 f26 f27 f28 f29 f30 f31 f32 f33 f34 f35 f36 f37 : Addr} (X : K.In h) (G : h.Ns mainGlobals mg) (hfa : mg "law" = some (.ref fa))
    {od0 an0 od1 an1 od2 an2 od3 an3 od4 an4 od5 an5 od6 an6 od7 an7 od8 an8 od9 an9 od10 an10 od11 an11 od12 an12 od13 an13 od14 an14 od15 an15 od16 an16 od17 an17 od18 an18 od19 an19 od20 an20 od21 an21 od22 an22 od23 an23 od24 an24 od25 an25 od26 an26 od27 an27 od28 an28 od29 an29 od30 an30 od31 an31 od32 an32 od33 an33 od34 an34 od35 an35 od36 an36 od37 an37 : Option Addr} {sl0 sl1 sl2 sl3 sl4 sl5 sl6 sl7 sl8 sl9 sl10 sl11 sl12 sl13 sl14 sl15 sl16 sl17 sl18 sl19 sl20 sl21 sl22 sl23 sl24 sl25 sl26 sl27 sl28 sl29 sl30 sl31 sl32 sl33 sl34 sl35 sl36 sl37 : Array (Option Value)} {oc0 kV0 dc0 pm0 cd0 ct0 oc1 kV1 dc1 pm1 cd1 ct1 oc2 kV2 dc2 pm2 cd2 ct2 oc3 kV3 dc3 pm3 cd3 ct3 oc4 kV4 dc4 pm4 cd4 ct4 oc5 kV5 dc5 pm5 cd5 ct5 oc6 kV6 dc6 pm6 cd6 ct6 oc7 kV7 dc7 pm7 cd7 ct7 oc8 kV8 dc8 pm8 cd8 ct8 oc9 kV9 dc9 pm9 cd9 ct9 oc10 kV10 dc10 pm10 cd10 ct10 oc11 kV11 dc11 pm11 cd11 ct11 oc12 kV12 dc12 pm12 cd12 ct12 oc13 kV13 dc13 pm13 cd13 ct13 oc14 kV14 dc14 pm14 cd14 ct14 oc15 kV15 dc15 pm15 cd15 ct15 oc16 kV16 dc16 pm16 cd16 ct16 oc17 kV17 dc17 pm17 cd17 ct17 oc18 kV18 dc18 pm18 cd18 ct18 oc19 kV19 dc19 pm19 cd19 ct19 oc20 kV20 dc20 pm20 cd20 ct20 oc21 kV21 dc21 pm21 cd21 ct21 oc22 kV22 dc22 pm22 cd22 ct22 oc23 kV23 dc23 pm23 cd23 ct23 oc24 kV24 dc24 pm24 cd24 ct24 oc25 kV25 dc25 pm25 cd25 ct25 oc26 kV26 dc26 pm26 cd26 ct26 oc27 kV27 dc27 pm27 cd27 ct27 oc28 kV28 dc28 pm28 cd28 ct28 oc29 kV29 dc29 pm29 cd29 ct29 oc30 kV30 dc30 pm30 cd30 ct30 oc31 kV31 dc31 pm31 cd31 ct31 oc32 kV32 dc32 pm32 cd32 ct32 oc33 kV33 dc33 pm33 cd33 ct33 oc34 kV34 dc34 pm34 cd34 ct34 oc35 kV35 dc35 pm35 cd35 ct35 oc36 kV36 dc36 pm36 cd36 ct36 oc37 kV37 dc37 pm37 cd37 ct37 : Value}
    {C_Machine : Addr} (aC_Machine : PySem.W.nsIn K mainGlobals "Machine" = some (some (.ref C_Machine))) (pg_Machine : PySem.W.plainGet K C_Machine Str.empty = true) (hd_Machine : PySem.W.hasDictIn K C_Machine = true) (po_Machine : PySem.W.plainOver K C_Machine = true) (sa_Machine : PySem.W.findIn K (.ref C_Machine) "__setattr__" = some (some (.builtin "object.__setattr__"))) (mk_Machine : PySem.W.makesIn K C_Machine = true) (kC_Machine : PySem.W.keepIn K (.ref C_Machine) = true)
    (nf_Machine_plan : PySem.W.findIn K (.ref C_Machine) "plan" = some none)
    (nf_Machine_code : PySem.W.findIn K (.ref C_Machine) "code" = some none)
    (nf_Machine_place : PySem.W.findIn K (.ref C_Machine) "place" = some none)
    (nf_Machine_boxes : PySem.W.findIn K (.ref C_Machine) "boxes" = some none)
    (nf_Machine_memory : PySem.W.findIn K (.ref C_Machine) "memory" = some none)
    (nf_Machine_replies : PySem.W.findIn K (.ref C_Machine) "replies" = some none)
    (nf_Machine_rows : PySem.W.findIn K (.ref C_Machine) "rows" = some none)
    (a0 : PySem.W.nsIn K mainGlobals "rest" = some (some (.ref f0))) (l0 : K.lookup f0 = some ⟨oc0, od0, .func (PySem.W.fnOf "rest" "rest" (defArgs s_rest) (defBody s_rest) (defScope s_rest) .none kV0 dc0 pm0 an0 cd0 ct0), sl0⟩) (c0 : PySem.W.codeIn K cd0 "rest" = true) (k0 : PySem.W.keepIn K (.ref f0) = true)
    (a1 : PySem.W.nsIn K mainGlobals "signed" = some (some (.ref f1))) (l1 : K.lookup f1 = some ⟨oc1, od1, .func (PySem.W.fnOf "signed" "signed" (defArgs s_signed) (defBody s_signed) (defScope s_signed) .none kV1 dc1 pm1 an1 cd1 ct1), sl1⟩) (c1 : PySem.W.codeIn K cd1 "signed" = true) (k1 : PySem.W.keepIn K (.ref f1) = true)
    (a2 : PySem.W.nsIn K mainGlobals "fields_of" = some (some (.ref f2))) (l2 : K.lookup f2 = some ⟨oc2, od2, .func (PySem.W.fnOf "fields_of" "fields_of" (defArgs s_fields_of) (defBody s_fields_of) (defScope s_fields_of) .none kV2 dc2 pm2 an2 cd2 ct2), sl2⟩) (c2 : PySem.W.codeIn K cd2 "fields_of" = true) (k2 : PySem.W.keepIn K (.ref f2) = true)
    (a3 : PySem.W.nsIn K mainGlobals "words_of" = some (some (.ref f3))) (l3 : K.lookup f3 = some ⟨oc3, od3, .func (PySem.W.fnOf "words_of" "words_of" (defArgs s_words_of) (defBody s_words_of) (defScope s_words_of) .none kV3 dc3 pm3 an3 cd3 ct3), sl3⟩) (c3 : PySem.W.codeIn K cd3 "words_of" = true) (k3 : PySem.W.keepIn K (.ref f3) = true)
    (a4 : PySem.W.nsIn K mainGlobals "field_in" = some (some (.ref f4))) (l4 : K.lookup f4 = some ⟨oc4, od4, .func (PySem.W.fnOf "field_in" "field_in" (defArgs s_field_in) (defBody s_field_in) (defScope s_field_in) .none kV4 dc4 pm4 an4 cd4 ct4), sl4⟩) (c4 : PySem.W.codeIn K cd4 "field_in" = true) (k4 : PySem.W.keepIn K (.ref f4) = true)
    (a5 : PySem.W.nsIn K mainGlobals "instruction_at" = some (some (.ref f5))) (l5 : K.lookup f5 = some ⟨oc5, od5, .func (PySem.W.fnOf "instruction_at" "instruction_at" (defArgs s_instruction_at) (defBody s_instruction_at) (defScope s_instruction_at) .none kV5 dc5 pm5 an5 cd5 ct5), sl5⟩) (c5 : PySem.W.codeIn K cd5 "instruction_at" = true) (k5 : PySem.W.keepIn K (.ref f5) = true)
    (a6 : PySem.W.nsIn K mainGlobals "length_of" = some (some (.ref f6))) (l6 : K.lookup f6 = some ⟨oc6, od6, .func (PySem.W.fnOf "length_of" "length_of" (defArgs s_length_of) (defBody s_length_of) (defScope s_length_of) .none kV6 dc6 pm6 an6 cd6 ct6), sl6⟩) (c6 : PySem.W.codeIn K cd6 "length_of" = true) (k6 : PySem.W.keepIn K (.ref f6) = true)
    (a7 : PySem.W.nsIn K mainGlobals "in_room" = some (some (.ref f7))) (l7 : K.lookup f7 = some ⟨oc7, od7, .func (PySem.W.fnOf "in_room" "in_room" (defArgs s_in_room) (defBody s_in_room) (defScope s_in_room) .none kV7 dc7 pm7 an7 cd7 ct7), sl7⟩) (c7 : PySem.W.codeIn K cd7 "in_room" = true) (k7 : PySem.W.keepIn K (.ref f7) = true)
    (a8 : PySem.W.nsIn K mainGlobals "of_two" = some (some (.ref f8))) (l8 : K.lookup f8 = some ⟨oc8, od8, .func (PySem.W.fnOf "of_two" "of_two" (defArgs s_of_two) (defBody s_of_two) (defScope s_of_two) .none kV8 dc8 pm8 an8 cd8 ct8), sl8⟩) (c8 : PySem.W.codeIn K cd8 "of_two" = true) (k8 : PySem.W.keepIn K (.ref f8) = true)
    (a9 : PySem.W.nsIn K mainGlobals "reckoned" = some (some (.ref f9))) (l9 : K.lookup f9 = some ⟨oc9, od9, .func (PySem.W.fnOf "reckoned" "reckoned" (defArgs s_reckoned) (defBody s_reckoned) (defScope s_reckoned) .none kV9 dc9 pm9 an9 cd9 ct9), sl9⟩) (c9 : PySem.W.codeIn K cd9 "reckoned" = true) (k9 : PySem.W.keepIn K (.ref f9) = true)
    (a10 : PySem.W.nsIn K mainGlobals "masked" = some (some (.ref f10))) (l10 : K.lookup f10 = some ⟨oc10, od10, .func (PySem.W.fnOf "masked" "masked" (defArgs s_masked) (defBody s_masked) (defScope s_masked) .none kV10 dc10 pm10 an10 cd10 ct10), sl10⟩) (c10 : PySem.W.codeIn K cd10 "masked" = true) (k10 : PySem.W.keepIn K (.ref f10) = true)
    (a11 : PySem.W.findIn K (.ref C_Machine) "__init__" = some (some (.ref f11))) (i11 : PySem.W.isFn K (.ref f11) = true) (l11 : K.lookup f11 = some ⟨oc11, od11, .func (PySem.W.fnOf "__init__" "Machine.__init__" (defArgs s_Machine_init) (defBody s_Machine_init) (defScope s_Machine_init) .none kV11 dc11 pm11 an11 cd11 ct11), sl11⟩) (c11 : PySem.W.codeIn K cd11 "Machine.__init__" = true) (k11 : PySem.W.keepIn K (.ref f11) = true)
    (a12 : PySem.W.findIn K (.ref C_Machine) "stand" = some (some (.ref f12))) (i12 : PySem.W.isFn K (.ref f12) = true) (l12 : K.lookup f12 = some ⟨oc12, od12, .func (PySem.W.fnOf "stand" "Machine.stand" (defArgs s_Machine_stand) (defBody s_Machine_stand) (defScope s_Machine_stand) .none kV12 dc12 pm12 an12 cd12 ct12), sl12⟩) (c12 : PySem.W.codeIn K cd12 "Machine.stand" = true) (k12 : PySem.W.keepIn K (.ref f12) = true)
    (a13 : PySem.W.findIn K (.ref C_Machine) "reach" = some (some (.ref f13))) (i13 : PySem.W.isFn K (.ref f13) = true) (l13 : K.lookup f13 = some ⟨oc13, od13, .func (PySem.W.fnOf "reach" "Machine.reach" (defArgs s_Machine_reach) (defBody s_Machine_reach) (defScope s_Machine_reach) .none kV13 dc13 pm13 an13 cd13 ct13), sl13⟩) (c13 : PySem.W.codeIn K cd13 "Machine.reach" = true) (k13 : PySem.W.keepIn K (.ref f13) = true)
    (a14 : PySem.W.findIn K (.ref C_Machine) "gate" = some (some (.ref f14))) (i14 : PySem.W.isFn K (.ref f14) = true) (l14 : K.lookup f14 = some ⟨oc14, od14, .func (PySem.W.fnOf "gate" "Machine.gate" (defArgs s_Machine_gate) (defBody s_Machine_gate) (defScope s_Machine_gate) .none kV14 dc14 pm14 an14 cd14 ct14), sl14⟩) (c14 : PySem.W.codeIn K cd14 "Machine.gate" = true) (k14 : PySem.W.keepIn K (.ref f14) = true)
    (a15 : PySem.W.findIn K (.ref C_Machine) "onward" = some (some (.ref f15))) (i15 : PySem.W.isFn K (.ref f15) = true) (l15 : K.lookup f15 = some ⟨oc15, od15, .func (PySem.W.fnOf "onward" "Machine.onward" (defArgs s_Machine_onward) (defBody s_Machine_onward) (defScope s_Machine_onward) .none kV15 dc15 pm15 an15 cd15 ct15), sl15⟩) (c15 : PySem.W.codeIn K cd15 "Machine.onward" = true) (k15 : PySem.W.keepIn K (.ref f15) = true)
    (a16 : PySem.W.findIn K (.ref C_Machine) "done" = some (some (.ref f16))) (i16 : PySem.W.isFn K (.ref f16) = true) (l16 : K.lookup f16 = some ⟨oc16, od16, .func (PySem.W.fnOf "done" "Machine.done" (defArgs s_Machine_done) (defBody s_Machine_done) (defScope s_Machine_done) .none kV16 dc16 pm16 an16 cd16 ct16), sl16⟩) (c16 : PySem.W.codeIn K cd16 "Machine.done" = true) (k16 : PySem.W.keepIn K (.ref f16) = true)
    (a17 : PySem.W.nsIn K mainGlobals "run" = some (some (.ref f17))) (l17 : K.lookup f17 = some ⟨oc17, od17, .func (PySem.W.fnOf "run" "run" (defArgs s_run) (defBody s_run) (defScope s_run) .none kV17 dc17 pm17 an17 cd17 ct17), sl17⟩) (c17 : PySem.W.codeIn K cd17 "run" = true) (k17 : PySem.W.keepIn K (.ref f17) = true)
    (a18 : PySem.W.nsIn K mainGlobals "_law_draw" = some (some (.ref f18))) (l18 : K.lookup f18 = some ⟨oc18, od18, .func (PySem.W.fnOf "_law_draw" "_law_draw" (defArgs s_law_draw) (defBody s_law_draw) (defScope s_law_draw) .none kV18 dc18 pm18 an18 cd18 ct18), sl18⟩) (c18 : PySem.W.codeIn K cd18 "_law_draw" = true) (k18 : PySem.W.keepIn K (.ref f18) = true)
    (a19 : PySem.W.nsIn K mainGlobals "_law_sorts" = some (some (.ref f19))) (l19 : K.lookup f19 = some ⟨oc19, od19, .func (PySem.W.fnOf "_law_sorts" "_law_sorts" (defArgs s_law_sorts) (defBody s_law_sorts) (defScope s_law_sorts) .none kV19 dc19 pm19 an19 cd19 ct19), sl19⟩) (c19 : PySem.W.codeIn K cd19 "_law_sorts" = true) (k19 : PySem.W.keepIn K (.ref f19) = true)
    (a20 : PySem.W.nsIn K mainGlobals "_law_words" = some (some (.ref f20))) (l20 : K.lookup f20 = some ⟨oc20, od20, .func (PySem.W.fnOf "_law_words" "_law_words" (defArgs s_law_words) (defBody s_law_words) (defScope s_law_words) .none kV20 dc20 pm20 an20 cd20 ct20), sl20⟩) (c20 : PySem.W.codeIn K cd20 "_law_words" = true) (k20 : PySem.W.keepIn K (.ref f20) = true)
    (a21 : PySem.W.nsIn K mainGlobals "_law_read" = some (some (.ref f21))) (l21 : K.lookup f21 = some ⟨oc21, od21, .func (PySem.W.fnOf "_law_read" "_law_read" (defArgs s_law_read) (defBody s_law_read) (defScope s_law_read) .none kV21 dc21 pm21 an21 cd21 ct21), sl21⟩) (c21 : PySem.W.codeIn K cd21 "_law_read" = true) (k21 : PySem.W.keepIn K (.ref f21) = true)
    (a22 : PySem.W.nsIn K mainGlobals "_law_plan" = some (some (.ref f22))) (l22 : K.lookup f22 = some ⟨oc22, od22, .func (PySem.W.fnOf "_law_plan" "_law_plan" (defArgs s_law_plan) (defBody s_law_plan) (defScope s_law_plan) .none kV22 dc22 pm22 an22 cd22 ct22), sl22⟩) (c22 : PySem.W.codeIn K cd22 "_law_plan" = true) (k22 : PySem.W.keepIn K (.ref f22) = true)
    (a23 : PySem.W.nsIn K mainGlobals "_law_value" = some (some (.ref f23))) (l23 : K.lookup f23 = some ⟨oc23, od23, .func (PySem.W.fnOf "_law_value" "_law_value" (defArgs s_law_value) (defBody s_law_value) (defScope s_law_value) .none kV23 dc23 pm23 an23 cd23 ct23), sl23⟩) (c23 : PySem.W.codeIn K cd23 "_law_value" = true) (k23 : PySem.W.keepIn K (.ref f23) = true)
    (a24 : PySem.W.nsIn K mainGlobals "_law_boxes" = some (some (.ref f24))) (l24 : K.lookup f24 = some ⟨oc24, od24, .func (PySem.W.fnOf "_law_boxes" "_law_boxes" (defArgs s_law_boxes) (defBody s_law_boxes) (defScope s_law_boxes) .none kV24 dc24 pm24 an24 cd24 ct24), sl24⟩) (c24 : PySem.W.codeIn K cd24 "_law_boxes" = true) (k24 : PySem.W.keepIn K (.ref f24) = true)
    (a25 : PySem.W.nsIn K mainGlobals "_law_memory" = some (some (.ref f25))) (l25 : K.lookup f25 = some ⟨oc25, od25, .func (PySem.W.fnOf "_law_memory" "_law_memory" (defArgs s_law_memory) (defBody s_law_memory) (defScope s_law_memory) .none kV25 dc25 pm25 an25 cd25 ct25), sl25⟩) (c25 : PySem.W.codeIn K cd25 "_law_memory" = true) (k25 : PySem.W.keepIn K (.ref f25) = true)
    (a26 : PySem.W.nsIn K mainGlobals "_law_number" = some (some (.ref f26))) (l26 : K.lookup f26 = some ⟨oc26, od26, .func (PySem.W.fnOf "_law_number" "_law_number" (defArgs s_law_number) (defBody s_law_number) (defScope s_law_number) .none kV26 dc26 pm26 an26 cd26 ct26), sl26⟩) (c26 : PySem.W.codeIn K cd26 "_law_number" = true) (k26 : PySem.W.keepIn K (.ref f26) = true)
    (a27 : PySem.W.nsIn K mainGlobals "_law_bits" = some (some (.ref f27))) (l27 : K.lookup f27 = some ⟨oc27, od27, .func (PySem.W.fnOf "_law_bits" "_law_bits" (defArgs s_law_bits) (defBody s_law_bits) (defScope s_law_bits) .none kV27 dc27 pm27 an27 cd27 ct27), sl27⟩) (c27 : PySem.W.codeIn K cd27 "_law_bits" = true) (k27 : PySem.W.keepIn K (.ref f27) = true)
    (a28 : PySem.W.nsIn K mainGlobals "_law_of_two" = some (some (.ref f28))) (l28 : K.lookup f28 = some ⟨oc28, od28, .func (PySem.W.fnOf "_law_of_two" "_law_of_two" (defArgs s_law_of_two) (defBody s_law_of_two) (defScope s_law_of_two) .none kV28 dc28 pm28 an28 cd28 ct28), sl28⟩) (c28 : PySem.W.codeIn K cd28 "_law_of_two" = true) (k28 : PySem.W.keepIn K (.ref f28) = true)
    (a29 : PySem.W.nsIn K mainGlobals "_law_makes" = some (some (.ref f29))) (l29 : K.lookup f29 = some ⟨oc29, od29, .func (PySem.W.fnOf "_law_makes" "_law_makes" (defArgs s_law_makes) (defBody s_law_makes) (defScope s_law_makes) .none kV29 dc29 pm29 an29 cd29 ct29), sl29⟩) (c29 : PySem.W.codeIn K cd29 "_law_makes" = true) (k29 : PySem.W.keepIn K (.ref f29) = true)
    (a30 : PySem.W.nsIn K mainGlobals "_law_goes" = some (some (.ref f30))) (l30 : K.lookup f30 = some ⟨oc30, od30, .func (PySem.W.fnOf "_law_goes" "_law_goes" (defArgs s_law_goes) (defBody s_law_goes) (defScope s_law_goes) .none kV30 dc30 pm30 an30 cd30 ct30), sl30⟩) (c30 : PySem.W.codeIn K cd30 "_law_goes" = true) (k30 : PySem.W.keepIn K (.ref f30) = true)
    (a31 : PySem.W.nsIn K mainGlobals "_law_reach" = some (some (.ref f31))) (l31 : K.lookup f31 = some ⟨oc31, od31, .func (PySem.W.fnOf "_law_reach" "_law_reach" (defArgs s_law_reach) (defBody s_law_reach) (defScope s_law_reach) .none kV31 dc31 pm31 an31 cd31 ct31), sl31⟩) (c31 : PySem.W.codeIn K cd31 "_law_reach" = true) (k31 : PySem.W.keepIn K (.ref f31) = true)
    (a32 : PySem.W.nsIn K mainGlobals "_law_gate" = some (some (.ref f32))) (l32 : K.lookup f32 = some ⟨oc32, od32, .func (PySem.W.fnOf "_law_gate" "_law_gate" (defArgs s_law_gate) (defBody s_law_gate) (defScope s_law_gate) .none kV32 dc32 pm32 an32 cd32 ct32), sl32⟩) (c32 : PySem.W.codeIn K cd32 "_law_gate" = true) (k32 : PySem.W.keepIn K (.ref f32) = true)
    (a33 : PySem.W.nsIn K mainGlobals "_law_run" = some (some (.ref f33))) (l33 : K.lookup f33 = some ⟨oc33, od33, .func (PySem.W.fnOf "_law_run" "_law_run" (defArgs s_law_run) (defBody s_law_run) (defScope s_law_run) .none kV33 dc33 pm33 an33 cd33 ct33), sl33⟩) (c33 : PySem.W.codeIn K cd33 "_law_run" = true) (k33 : PySem.W.keepIn K (.ref f33) = true)
    (a34 : PySem.W.nsIn K mainGlobals "_law_whole" = some (some (.ref f34))) (l34 : K.lookup f34 = some ⟨oc34, od34, .func (PySem.W.fnOf "_law_whole" "_law_whole" (defArgs s_law_whole) (defBody s_law_whole) (defScope s_law_whole) .none kV34 dc34 pm34 an34 cd34 ct34), sl34⟩) (c34 : PySem.W.codeIn K cd34 "_law_whole" = true) (k34 : PySem.W.keepIn K (.ref f34) = true)
    (a35 : PySem.W.nsIn K mainGlobals "_law_alike" = some (some (.ref f35))) (l35 : K.lookup f35 = some ⟨oc35, od35, .func (PySem.W.fnOf "_law_alike" "_law_alike" (defArgs s_law_alike) (defBody s_law_alike) (defScope s_law_alike) .none kV35 dc35 pm35 an35 cd35 ct35), sl35⟩) (c35 : PySem.W.codeIn K cd35 "_law_alike" = true) (k35 : PySem.W.keepIn K (.ref f35) = true)
    (a36 : PySem.W.nsIn K mainGlobals "_law_straight" = some (some (.ref f36))) (l36 : K.lookup f36 = some ⟨oc36, od36, .func (PySem.W.fnOf "_law_straight" "_law_straight" (defArgs s_law_straight) (defBody s_law_straight) (defScope s_law_straight) .none kV36 dc36 pm36 an36 cd36 ct36), sl36⟩) (c36 : PySem.W.codeIn K cd36 "_law_straight" = true) (k36 : PySem.W.keepIn K (.ref f36) = true)
    (a37 : PySem.W.nsIn K mainGlobals "law" = some (some (.ref f37))) (l37 : K.lookup f37 = some ⟨oc37, od37, .func (PySem.W.fnOf "law" "law" (defArgs s_law_k33) (defBody s_law_k33) (defScope s_law_k33) .none kV37 dc37 pm37 an37 cd37 ct37), sl37⟩) (c37 : PySem.W.codeIn K cd37 "law" = true) (k37 : PySem.W.keepIn K (.ref f37) = true)
    (z_zip : PySem.W.nsIn K mainGlobals "zip" = some none)
    (z_len : PySem.W.nsIn K mainGlobals "len" = some none)
    (z_tuple : PySem.W.nsIn K mainGlobals "tuple" = some none)
    (z_int : PySem.W.nsIn K mainGlobals "int" = some none)
    (z_list : PySem.W.nsIn K mainGlobals "list" = some none)
    (z_dict : PySem.W.nsIn K mainGlobals "dict" = some none)
    (z_abs : PySem.W.nsIn K mainGlobals "abs" = some none)
    (z_range : PySem.W.nsIn K mainGlobals "range" = some none)
    (z_isinstance : PySem.W.nsIn K mainGlobals "isinstance" = some none)
    (z_bool : PySem.W.nsIn K mainGlobals "bool" = some none)
    (z_all : PySem.W.nsIn K mainGlobals "all" = some none)
    (z_str : PySem.W.nsIn K mainGlobals "str" = some none)
    (z_max : PySem.W.nsIn K mainGlobals "max" = some none)
    {tk_SORT_BEGINS : Tok}  (q_SORT_BEGINS : PySem.W.nsIn K mainGlobals "SORT_BEGINS" = some (some (.int 27 tk_SORT_BEGINS)))
    {tk_NUMBER_BITS : Tok}  (q_NUMBER_BITS : PySem.W.nsIn K mainGlobals "NUMBER_BITS" = some (some (.int 18 tk_NUMBER_BITS)))
    {ad_BELOW : Addr} (q_BELOW : PySem.W.nsIn K mainGlobals "BELOW" = some (some (.ref ad_BELOW)))
    {it_BELOW : Array Value} {n_BELOW : Nat} (o_BELOW : K.lookup ad_BELOW = some ⟨.type "tuple", none, .seq it_BELOW n_BELOW, #[]⟩)
    {tk_BELOW_0 : Tok} {tk_BELOW_1 : Tok} {tk_BELOW_2 : Tok}  (i_BELOW : it_BELOW.toList = [.str "more" tk_BELOW_0, .str "load" tk_BELOW_1, .str "store" tk_BELOW_2])
     (s_BELOW : it_BELOW.size ≤ sizeLine)
    {ad_SORTS : Addr} (q_SORTS : PySem.W.nsIn K mainGlobals "SORTS" = some (some (.ref ad_SORTS)))
    {it_SORTS : Array Value} {n_SORTS : Nat} (o_SORTS : K.lookup ad_SORTS = some ⟨.type "tuple", none, .seq it_SORTS n_SORTS, #[]⟩)
    {tk_SORTS_0 : Tok} {tk_SORTS_1 : Tok} {tk_SORTS_2 : Tok} {tk_SORTS_3 : Tok} {tk_SORTS_4 : Tok} {tk_SORTS_5 : Tok} {tk_SORTS_6 : Tok} {tk_SORTS_7 : Tok} {tk_SORTS_8 : Tok} {tk_SORTS_9 : Tok} {tk_SORTS_10 : Tok} {tk_SORTS_11 : Tok} {tk_SORTS_12 : Tok} {tk_SORTS_13 : Tok} {tk_SORTS_14 : Tok} {tk_SORTS_15 : Tok} {tk_SORTS_16 : Tok} {tk_SORTS_17 : Tok} {tk_SORTS_18 : Tok}  (i_SORTS : it_SORTS.toList = [.str "stop" tk_SORTS_0, .str "put" tk_SORTS_1, .str "add" tk_SORTS_2, .str "sub" tk_SORTS_3, .str "and" tk_SORTS_4, .str "or" tk_SORTS_5, .str "xor" tk_SORTS_6, .str "less" tk_SORTS_7, .str "left" tk_SORTS_8, .str "right" tk_SORTS_9, .str "more" tk_SORTS_10, .str "load" tk_SORTS_11, .str "store" tk_SORTS_12, .str "jump" tk_SORTS_13, .str "jumpif" tk_SORTS_14, .str "through" tk_SORTS_15, .str "fit" tk_SORTS_16, .str "aim" tk_SORTS_17, .str "gate" tk_SORTS_18])
     (s_SORTS : it_SORTS.size ≤ sizeLine)
    {tk_MOST : Tok}  (q_MOST : PySem.W.nsIn K mainGlobals "MOST" = some (some (.int 4294967295 tk_MOST)))
    {tk_STEPS_OF_SHIFTS : Tok}  (q_STEPS_OF_SHIFTS : PySem.W.nsIn K mainGlobals "STEPS_OF_SHIFTS" = some (some (.int 31 tk_STEPS_OF_SHIFTS)))
    {tk_BUNDLE : Tok}  (q_BUNDLE : PySem.W.nsIn K mainGlobals "BUNDLE" = some (some (.int 8 tk_BUNDLE)))
    {tk_HOST : Tok}  (q_HOST : PySem.W.nsIn K mainGlobals "HOST" = some (some (.int 7 tk_HOST)))
    {ad_FIELDS : Addr} (q_FIELDS : PySem.W.nsIn K mainGlobals "FIELDS" = some (some (.ref ad_FIELDS)))
    {es_FIELDS : Array DictEntry} {n_FIELDS : Nat} (o_FIELDS : K.lookup ad_FIELDS = some ⟨.type "dict", none, .dict es_FIELDS n_FIELDS, #[]⟩)
    {tk_FIELDS_0 : Tok} {tk_FIELDS_1 : Tok} {tk_FIELDS_2 : Tok} {tk_FIELDS_3 : Tok} {tk_FIELDS_4 : Tok} {tk_FIELDS_5 : Tok} {tk_FIELDS_6 : Tok} {tk_FIELDS_7 : Tok} {tk_FIELDS_8 : Tok} {tk_FIELDS_9 : Tok} {tk_FIELDS_10 : Tok} {kt_FIELDS_0 : Tok} {kt_FIELDS_1 : Tok} {kt_FIELDS_2 : Tok} {kt_FIELDS_3 : Tok} {kt_FIELDS_4 : Tok} {kt_FIELDS_5 : Tok} {kt_FIELDS_6 : Tok} {kt_FIELDS_7 : Tok} {kt_FIELDS_8 : Tok} {kt_FIELDS_9 : Tok} {kt_FIELDS_10 : Tok}  (e_FIELDS : es_FIELDS.toList = [⟨PyData.keyHash w.params "stop", .str "stop" kt_FIELDS_0, .str "" tk_FIELDS_0⟩, ⟨PyData.keyHash w.params "put", .str "put" kt_FIELDS_1, .str "a" tk_FIELDS_1⟩, ⟨PyData.keyHash w.params "more", .str "more" kt_FIELDS_2, .str "abn" tk_FIELDS_2⟩, ⟨PyData.keyHash w.params "load", .str "load" kt_FIELDS_3, .str "abn" tk_FIELDS_3⟩, ⟨PyData.keyHash w.params "store", .str "store" kt_FIELDS_4, .str "abn" tk_FIELDS_4⟩, ⟨PyData.keyHash w.params "jump", .str "jump" kt_FIELDS_5, .str "n" tk_FIELDS_5⟩, ⟨PyData.keyHash w.params "jumpif", .str "jumpif" kt_FIELDS_6, .str "an" tk_FIELDS_6⟩, ⟨PyData.keyHash w.params "through", .str "through" kt_FIELDS_7, .str "b" tk_FIELDS_7⟩, ⟨PyData.keyHash w.params "fit", .str "fit" kt_FIELDS_8, .str "ab" tk_FIELDS_8⟩, ⟨PyData.keyHash w.params "aim", .str "aim" kt_FIELDS_9, .str "ab" tk_FIELDS_9⟩, ⟨PyData.keyHash w.params "gate", .str "gate" kt_FIELDS_10, .str "n" tk_FIELDS_10⟩])
     (s_FIELDS : (ad_FIELDS == sysModules) = false)
    {ad_BEGINS : Addr} (q_BEGINS : PySem.W.nsIn K mainGlobals "BEGINS" = some (some (.ref ad_BEGINS)))
    {es_BEGINS : Array DictEntry} {n_BEGINS : Nat} (o_BEGINS : K.lookup ad_BEGINS = some ⟨.type "dict", none, .dict es_BEGINS n_BEGINS, #[]⟩)
    {tk_BEGINS_0 : Tok} {tk_BEGINS_1 : Tok} {tk_BEGINS_2 : Tok} {tk_BEGINS_3 : Tok} {kt_BEGINS_0 : Tok} {kt_BEGINS_1 : Tok} {kt_BEGINS_2 : Tok} {kt_BEGINS_3 : Tok}  (e_BEGINS : es_BEGINS.toList = [⟨PyData.keyHash w.params "a", .str "a" kt_BEGINS_0, .int 24 tk_BEGINS_0⟩, ⟨PyData.keyHash w.params "b", .str "b" kt_BEGINS_1, .int 21 tk_BEGINS_1⟩, ⟨PyData.keyHash w.params "c", .str "c" kt_BEGINS_2, .int 18 tk_BEGINS_2⟩, ⟨PyData.keyHash w.params "n", .str "n" kt_BEGINS_3, .int 0 tk_BEGINS_3⟩])
     (s_BEGINS : (ad_BEGINS == sysModules) = false)
    : ∃ fd : FuncData, (∀ (s : Shared) (v : Value), BindsTo s fd ⟨[v], []⟩ [("_law_script", v)]) ∧ ∀ base : Heap, K.In base → base.Ns mainGlobals mg → FnOk l.prog w K mg base CX0 9 fa fd ["_law_script"] (spAny K (fun _ => F0) 1 g_law_k33_1) := by
  have e := hfa.symm.trans (PySem.W.mg_of X G a37)
  cases e
  obtain ⟨cl, ec_Machine⟩ : ∃ cl : Str → Addr, cl "Machine" = C_Machine := ⟨fun x => if x = "Machine" then C_Machine else 0, if_pos rfl⟩
  subst ec_Machine
  have mC_Machine := PySem.W.mg_of X G aC_Machine
  have T : Tx K w.params mg cl := ⟨PySem.W.mg_none_of X G z_zip, PySem.W.mg_none_of X G z_len, PySem.W.mg_none_of X G z_tuple, PySem.W.mg_none_of X G z_int, PySem.W.mg_none_of X G z_list, PySem.W.mg_none_of X G z_dict, PySem.W.mg_none_of X G z_abs, PySem.W.mg_none_of X G z_range, PySem.W.mg_none_of X G z_isinstance, PySem.W.mg_none_of X G z_bool, PySem.W.mg_none_of X G z_all, PySem.W.mg_none_of X G z_str, PySem.W.mg_none_of X G z_max, kg_of (PySem.W.mg_of X G q_SORT_BEGINS) kv_int, kg_of (PySem.W.mg_of X G q_NUMBER_BITS) kv_int, kg_of (PySem.W.mg_of X G q_BELOW) (kv_tup o_BELOW rfl rfl i_BELOW (KvL.cons kv_str (KvL.cons kv_str (KvL.cons kv_str KvL.nil))) s_BELOW), kg_of (PySem.W.mg_of X G q_SORTS) (kv_tup o_SORTS rfl rfl i_SORTS (KvL.cons kv_str (KvL.cons kv_str (KvL.cons kv_str (KvL.cons kv_str (KvL.cons kv_str (KvL.cons kv_str (KvL.cons kv_str (KvL.cons kv_str (KvL.cons kv_str (KvL.cons kv_str (KvL.cons kv_str (KvL.cons kv_str (KvL.cons kv_str (KvL.cons kv_str (KvL.cons kv_str (KvL.cons kv_str (KvL.cons kv_str (KvL.cons kv_str (KvL.cons kv_str KvL.nil))))))))))))))))))) s_SORTS), kg_of (PySem.W.mg_of X G q_MOST) kv_int, kg_of (PySem.W.mg_of X G q_STEPS_OF_SHIFTS) kv_int, kg_of (PySem.W.mg_of X G q_BUNDLE) kv_int, kg_of (PySem.W.mg_of X G q_HOST) kv_int, kt_of (PySem.W.mg_of X G q_SORTS) o_SORTS i_SORTS (KvL.cons kv_str (KvL.cons kv_str (KvL.cons kv_str (KvL.cons kv_str (KvL.cons kv_str (KvL.cons kv_str (KvL.cons kv_str (KvL.cons kv_str (KvL.cons kv_str (KvL.cons kv_str (KvL.cons kv_str (KvL.cons kv_str (KvL.cons kv_str (KvL.cons kv_str (KvL.cons kv_str (KvL.cons kv_str (KvL.cons kv_str (KvL.cons kv_str (KvL.cons kv_str KvL.nil))))))))))))))))))) s_SORTS (by rfl), kd_of (PySem.W.mg_of X G q_FIELDS) o_FIELDS s_FIELDS e_FIELDS (KdL.cons kv_str (KdL.cons kv_str (KdL.cons kv_str (KdL.cons kv_str (KdL.cons kv_str (KdL.cons kv_str (KdL.cons kv_str (KdL.cons kv_str (KdL.cons kv_str (KdL.cons kv_str (KdL.cons kv_str KdL.nil))))))))))), kd_of (PySem.W.mg_of X G q_BEGINS) o_BEGINS s_BEGINS e_BEGINS (KdL.cons kv_int (KdL.cons kv_int (KdL.cons kv_int (KdL.cons kv_int KdL.nil)))), ⟨pg_Machine, hd_Machine, po_Machine, sa_Machine⟩, nf_Machine_plan, nf_Machine_code, nf_Machine_place, nf_Machine_boxes, nf_Machine_memory, nf_Machine_replies, nf_Machine_rows⟩
  refine ⟨PySem.W.fnOf "law" "law" (defArgs s_law_k33) (defBody s_law_k33) (defScope s_law_k33) .none kV37 dc37 pm37 an37 cd37 ct37, fun s v => .of_eq rfl, fun base _ _ => FnOk.imp (sp := spOf K cl (fun _ => F0) 1 g_law_k33_1) ?_ fun vs H Q E h => h cl⟩
  have F0 := fun_mk (st := s_rest) l0 c0 k0
  have b0 := F0.binds (ps := ["v", "bits"]) fun _ _ _ _ _ _ us hl => match us, hl with | [_, _], _ => rfl
  have d_rest : Df (wz l.prog w K mg base cl) "rest" 1 2 g_rest := ok_rest T  F0 (PySem.W.mg_of X G a0) b0
  have F1 := fun_mk (st := s_signed) l1 c1 k1
  have b1 := F1.binds (ps := ["v", "bits"]) fun _ _ _ _ _ _ us hl => match us, hl with | [_, _], _ => rfl
  have d_signed : Df (wz l.prog w K mg base cl) "signed" 1 2 g_signed := ok_signed T  F1 (PySem.W.mg_of X G a1) b1
  have F2 := fun_mk (st := s_fields_of) l2 c2 k2
  have b2 := F2.binds (ps := ["sort"]) fun _ _ _ _ _ _ us hl => match us, hl with | [_], _ => rfl
  have d_fields_of : Df (wz l.prog w K mg base cl) "fields_of" 1 1 g_fields_of := ok_fields_of T  F2 (PySem.W.mg_of X G a2) b2
  have F3 := fun_mk (st := s_words_of) l3 c3 k3
  have b3 := F3.binds (ps := ["instruction"]) fun _ _ _ _ _ _ us hl => match us, hl with | [_], _ => rfl
  have d_words_of : Df (wz l.prog w K mg base cl) "words_of" 2 1 g_words_of := ok_words_of T d_fields_of d_rest F3 (PySem.W.mg_of X G a3) b3
  have F4 := fun_mk (st := s_field_in) l4 c4 k4
  have b4 := F4.binds (ps := ["word", "field", "sort"]) fun _ _ _ _ _ _ us hl => match us, hl with | [_, _, _], _ => rfl
  have d_field_in : Df (wz l.prog w K mg base cl) "field_in" 2 3 g_field_in := ok_field_in T d_rest d_signed F4 (PySem.W.mg_of X G a4) b4
  have F5 := fun_mk (st := s_instruction_at) l5 c5 k5
  have b5 := F5.binds (ps := ["code", "at"]) fun _ _ _ _ _ _ us hl => match us, hl with | [_, _], _ => rfl
  have d_instruction_at : Df (wz l.prog w K mg base cl) "instruction_at" 3 2 g_instruction_at := ok_instruction_at T d_fields_of d_field_in d_words_of F5 (PySem.W.mg_of X G a5) b5
  have F6 := fun_mk (st := s_length_of) l6 c6 k6
  have b6 := F6.binds (ps := ["instruction"]) fun _ _ _ _ _ _ us hl => match us, hl with | [_], _ => rfl
  have d_length_of : Df (wz l.prog w K mg base cl) "length_of" 1 1 g_length_of := ok_length_of T  F6 (PySem.W.mg_of X G a6) b6
  have F7 := fun_mk (st := s_in_room) l7 c7 k7
  have b7 := F7.binds (ps := ["plan", "place"]) fun _ _ _ _ _ _ us hl => match us, hl with | [_, _], _ => rfl
  have d_in_room : Df (wz l.prog w K mg base cl) "in_room" 1 2 g_in_room_1 := ok_in_room T  F7 (PySem.W.mg_of X G a7) b7
  have F8 := fun_mk (st := s_of_two) l8 c8 k8
  have b8 := F8.binds (ps := ["sort", "b", "c"]) fun _ _ _ _ _ _ us hl => match us, hl with | [_, _, _], _ => rfl
  have d_of_two : Df (wz l.prog w K mg base cl) "of_two" 1 3 g_of_two := ok_of_two T  F8 (PySem.W.mg_of X G a8) b8
  have F9 := fun_mk (st := s_reckoned) l9 c9 k9
  have b9 := F9.binds (ps := ["instruction", "boxes"]) fun _ _ _ _ _ _ us hl => match us, hl with | [_, _], _ => rfl
  have d_reckoned : Df (wz l.prog w K mg base cl) "reckoned" 2 2 g_reckoned_1 := ok_reckoned T d_of_two F9 (PySem.W.mg_of X G a9) b9
  have F10 := fun_mk (st := s_masked) l10 c10 k10
  have b10 := F10.binds (ps := ["plan", "instruction", "boxes"]) fun _ _ _ _ _ _ us hl => match us, hl with | [_, _, _], _ => rfl
  have d_masked : Df (wz l.prog w K mg base cl) "masked" 1 3 g_masked_1 := ok_masked T  F10 (PySem.W.mg_of X G a10) b10
  have F11 := fun_mk (st := s_Machine_init) l11 c11 k11
  have b11 := F11.binds (ps := ["self", "plan", "code", "stand", "replies"]) fun _ _ _ _ _ _ us hl => match us, hl with | [_, _, _, _, _], _ => rfl
  have d_Machine_init : DfC (wz l.prog w K mg base cl) "Machine" 1 5 g_Machine_init := ok_Machine_init T  F11 mC_Machine ⟨mk_Machine, a11, i11, kC_Machine⟩ b11
  have F12 := fun_mk (st := s_Machine_stand) l12 c12 k12
  have b12 := F12.binds (ps := ["self"]) fun _ _ _ _ _ _ us hl => match us, hl with | [_], _ => rfl
  have d_Machine_stand : DfM (wz l.prog w K mg base cl) "Machine" "stand" 1 1 g_Machine_stand := ok_Machine_stand T  F12 ⟨a12, i12, k12⟩ b12
  have F13 := fun_mk (st := s_Machine_reach) l13 c13 k13
  have b13 := F13.binds (ps := ["self", "instruction"]) fun _ _ _ _ _ _ us hl => match us, hl with | [_, _], _ => rfl
  have d_Machine_reach : DfM (wz l.prog w K mg base cl) "Machine" "reach" 2 2 g_Machine_reach := ok_Machine_reach T d_in_room F13 ⟨a13, i13, k13⟩ b13
  have F14 := fun_mk (st := s_Machine_gate) l14 c14 k14
  have b14 := F14.binds (ps := ["self", "n"]) fun _ _ _ _ _ _ us hl => match us, hl with | [_, _], _ => rfl
  have d_Machine_gate : DfM (wz l.prog w K mg base cl) "Machine" "gate" 1 2 g_Machine_gate := ok_Machine_gate T  F14 ⟨a14, i14, k14⟩ b14
  have F15 := fun_mk (st := s_Machine_onward) l15 c15 k15
  have b15 := F15.binds (ps := ["self", "instruction"]) fun _ _ _ _ _ _ us hl => match us, hl with | [_, _], _ => rfl
  have d_Machine_onward : DfM (wz l.prog w K mg base cl) "Machine" "onward" 2 2 g_Machine_onward := ok_Machine_onward T d_length_of F15 ⟨a15, i15, k15⟩ b15
  have F16 := fun_mk (st := s_Machine_done) l16 c16 k16
  have b16 := F16.binds (ps := ["self", "instruction"]) fun _ _ _ _ _ _ us hl => match us, hl with | [_, _], _ => rfl
  have d_Machine_done : DfM (wz l.prog w K mg base cl) "Machine" "done" 3 2 g_Machine_done := ok_Machine_done T d_Machine_reach d_Machine_gate d_masked d_reckoned d_Machine_onward F16 ⟨a16, i16, k16⟩ b16
  have F17 := fun_mk (st := s_run) l17 c17 k17
  have b17 := F17.binds (ps := ["plan", "code", "stand", "replies", "most"]) fun _ _ _ _ _ _ us hl => match us, hl with | [_, _, _, _, _], _ => rfl
  have d_run : Df (wz l.prog w K mg base cl) "run" 4 5 g_run := ok_run T d_Machine_init d_instruction_at d_Machine_done d_Machine_stand F17 (PySem.W.mg_of X G a17) b17
  have F18 := fun_mk (st := s_law_draw) l18 c18 k18
  have b18 := F18.binds (ps := ["_law_state", "_law_many"]) fun _ _ _ _ _ _ us hl => match us, hl with | [_, _], _ => rfl
  have d__law_draw : Df (wz l.prog w K mg base cl) "_law_draw" 1 2 g_law_draw_3 := ok_law_draw T  F18 (PySem.W.mg_of X G a18) b18
  have F19 := fun_mk (st := s_law_sorts) l19 c19 k19
  have b19 := F19.binds (ps := []) fun _ _ _ _ _ _ us hl => match us, hl with | [], _ => rfl
  have d__law_sorts : Df (wz l.prog w K mg base cl) "_law_sorts" 1 0 g_law_sorts := ok_law_sorts T  F19 (PySem.W.mg_of X G a19) b19
  have F20 := fun_mk (st := s_law_words) l20 c20 k20
  have b20 := F20.binds (ps := ["_law_one"]) fun _ _ _ _ _ _ us hl => match us, hl with | [_], _ => rfl
  have d__law_words : Df (wz l.prog w K mg base cl) "_law_words" 2 1 g_law_words_2 := ok_law_words T d__law_sorts F20 (PySem.W.mg_of X G a20) b20
  have F21 := fun_mk (st := s_law_read) l21 c21 k21
  have b21 := F21.binds (ps := ["_law_code", "_law_at"]) fun _ _ _ _ _ _ us hl => match us, hl with | [_, _], _ => rfl
  have d__law_read : Df (wz l.prog w K mg base cl) "_law_read" 3 2 g_law_read_2 := ok_law_read T d__law_sorts d__law_words F21 (PySem.W.mg_of X G a21) b21
  have F22 := fun_mk (st := s_law_plan) l22 c22 k22
  have b22 := F22.binds (ps := ["_law_state"]) fun _ _ _ _ _ _ us hl => match us, hl with | [_], _ => rfl
  have d__law_plan : Df (wz l.prog w K mg base cl) "_law_plan" 2 1 g_law_plan_3 := ok_law_plan T d__law_draw F22 (PySem.W.mg_of X G a22) b22
  have F23 := fun_mk (st := s_law_value) l23 c23 k23
  have b23 := F23.binds (ps := ["_law_state", "_law_plan_here"]) fun _ _ _ _ _ _ us hl => match us, hl with | [_, _], _ => rfl
  have d__law_value : Df (wz l.prog w K mg base cl) "_law_value" 2 2 g_law_value_4 := ok_law_value T d__law_draw F23 (PySem.W.mg_of X G a23) b23
  have F24 := fun_mk (st := s_law_boxes) l24 c24 k24
  have b24 := F24.binds (ps := ["_law_state", "_law_plan_here", "_law_many"]) fun _ _ _ _ _ _ us hl => match us, hl with | [_, _, _], _ => rfl
  have d__law_boxes : Df (wz l.prog w K mg base cl) "_law_boxes" 3 3 g_law_boxes_2 := ok_law_boxes T d__law_value F24 (PySem.W.mg_of X G a24) b24
  have F25 := fun_mk (st := s_law_memory) l25 c25 k25
  have b25 := F25.binds (ps := ["_law_state", "_law_plan_here", "_law_within"]) fun _ _ _ _ _ _ us hl => match us, hl with | [_, _, _], _ => rfl
  have d__law_memory : Df (wz l.prog w K mg base cl) "_law_memory" 3 3 g_law_memory := ok_law_memory T d__law_draw d__law_value F25 (PySem.W.mg_of X G a25) b25
  have F26 := fun_mk (st := s_law_number) l26 c26 k26
  have b26 := F26.binds (ps := ["_law_state"]) fun _ _ _ _ _ _ us hl => match us, hl with | [_], _ => rfl
  have d__law_number : Df (wz l.prog w K mg base cl) "_law_number" 2 1 g_law_number_3 := ok_law_number T d__law_draw F26 (PySem.W.mg_of X G a26) b26
  have F27 := fun_mk (st := s_law_bits) l27 c27 k27
  have b27 := F27.binds (ps := ["_law_word", "_law_b", "_law_c"]) fun _ _ _ _ _ _ us hl => match us, hl with | [_, _, _], _ => rfl
  have d__law_bits : Df (wz l.prog w K mg base cl) "_law_bits" 1 3 g_law_bits := ok_law_bits T  F27 (PySem.W.mg_of X G a27) b27
  have F28 := fun_mk (st := s_law_of_two) l28 c28 k28
  have b28 := F28.binds (ps := ["_law_word", "_law_b", "_law_c"]) fun _ _ _ _ _ _ us hl => match us, hl with | [_, _, _], _ => rfl
  have d__law_of_two : Df (wz l.prog w K mg base cl) "_law_of_two" 2 3 g_law_of_two := ok_law_of_two T d__law_bits F28 (PySem.W.mg_of X G a28) b28
  have F29 := fun_mk (st := s_law_makes) l29 c29 k29
  have b29 := F29.binds (ps := ["_law_plan_here", "_law_one", "_law_boxes_here"]) fun _ _ _ _ _ _ us hl => match us, hl with | [_, _, _], _ => rfl
  have d__law_makes : Df (wz l.prog w K mg base cl) "_law_makes" 3 3 g_law_makes_2 := ok_law_makes T d__law_of_two F29 (PySem.W.mg_of X G a29) b29
  have F30 := fun_mk (st := s_law_goes) l30 c30 k30
  have b30 := F30.binds (ps := ["_law_one", "_law_place", "_law_boxes_here"]) fun _ _ _ _ _ _ us hl => match us, hl with | [_, _, _], _ => rfl
  have d__law_goes : Df (wz l.prog w K mg base cl) "_law_goes" 1 3 g_law_goes_1 := ok_law_goes T  F30 (PySem.W.mg_of X G a30) b30
  have F31 := fun_mk (st := s_law_reach) l31 c31 k31
  have b31 := F31.binds (ps := ["_law_plan_here", "_law_one", "_law_boxes_here", "_law_memory_here"]) fun _ _ _ _ _ _ us hl => match us, hl with | [_, _, _, _], _ => rfl
  have d__law_reach : Df (wz l.prog w K mg base cl) "_law_reach" 1 4 g_law_reach := ok_law_reach T  F31 (PySem.W.mg_of X G a31) b31
  have F32 := fun_mk (st := s_law_gate) l32 c32 k32
  have b32 := F32.binds (ps := ["_law_plan_here", "_law_n", "_law_boxes_here", "_law_memory_here", "_law_rows", "_law_replies"]) fun _ _ _ _ _ _ us hl => match us, hl with | [_, _, _, _, _, _], _ => rfl
  have d__law_gate : Df (wz l.prog w K mg base cl) "_law_gate" 1 6 g_law_gate := ok_law_gate T  F32 (PySem.W.mg_of X G a32) b32
  have F33 := fun_mk (st := s_law_run) l33 c33 k33
  have b33 := F33.binds (ps := ["_law_plan_here", "_law_code", "_law_stand", "_law_replies", "_law_most"]) fun _ _ _ _ _ _ us hl => match us, hl with | [_, _, _, _, _], _ => rfl
  have d__law_run : Df (wz l.prog w K mg base cl) "_law_run" 4 5 g_law_run := ok_law_run T d__law_read d__law_makes d__law_gate d__law_reach d__law_goes F33 (PySem.W.mg_of X G a33) b33
  have F34 := fun_mk (st := s_law_whole) l34 c34 k34
  have b34 := F34.binds (ps := ["_law_found"]) fun _ _ _ _ _ _ us hl => match us, hl with | [_], _ => rfl
  have d__law_whole : Df (wz l.prog w K mg base cl) "_law_whole" 1 1 g_law_whole_1 := ok_law_whole T  F34 (PySem.W.mg_of X G a34) b34
  have F35 := fun_mk (st := s_law_alike) l35 c35 k35
  have b35 := F35.binds (ps := ["_law_found", "_law_due"]) fun _ _ _ _ _ _ us hl => match us, hl with | [_, _], _ => rfl
  have e__law_alike_0 : Df (wz l.prog w K mg base cl) "_law_alike" 2 2 (g_rlaw_alike_3 0) := on_law_alike F35 (PySem.W.mg_of X G a35) b35
  have e__law_alike_1 : Df (wz l.prog w K mg base cl) "_law_alike" 3 2 (g_rlaw_alike_3 1) := ok_law_alike T d__law_whole (by decide) e__law_alike_0 F35 (PySem.W.mg_of X G a35) b35
  have e__law_alike_2 : Df (wz l.prog w K mg base cl) "_law_alike" 4 2 (g_rlaw_alike_3 2) := ok_law_alike T d__law_whole (by decide) e__law_alike_1 F35 (PySem.W.mg_of X G a35) b35
  have e__law_alike_3 : Df (wz l.prog w K mg base cl) "_law_alike" 5 2 (g_rlaw_alike_3 3) := ok_law_alike T d__law_whole (by decide) e__law_alike_2 F35 (PySem.W.mg_of X G a35) b35
  have e__law_alike_4 : Df (wz l.prog w K mg base cl) "_law_alike" 6 2 (g_rlaw_alike_3 4) := ok_law_alike T d__law_whole (by decide) e__law_alike_3 F35 (PySem.W.mg_of X G a35) b35
  have e__law_alike_5 : Df (wz l.prog w K mg base cl) "_law_alike" 7 2 (g_rlaw_alike_3 5) := ok_law_alike T d__law_whole (by decide) e__law_alike_4 F35 (PySem.W.mg_of X G a35) b35
  have e__law_alike_6 : Df (wz l.prog w K mg base cl) "_law_alike" 8 2 (g_rlaw_alike_3 6) := ok_law_alike T d__law_whole (by decide) e__law_alike_5 F35 (PySem.W.mg_of X G a35) b35
  have d__law_alike : Df (wz l.prog w K mg base cl) "_law_alike" 8 2 g_law_alike_3 := e__law_alike_6
  have F36 := fun_mk (st := s_law_straight) l36 c36 k36
  have b36 := F36.binds (ps := ["_law_state", "_law_plan_here"]) fun _ _ _ _ _ _ us hl => match us, hl with | [_, _], _ => rfl
  have d__law_straight : Df (wz l.prog w K mg base cl) "_law_straight" 3 2 g_law_straight_1 := ok_law_straight T d__law_draw d__law_words d__law_number F36 (PySem.W.mg_of X G a36) b36
  exact ok_law T d__law_plan d__law_straight d__law_boxes d__law_memory d__law_draw d__law_run d_run d__law_alike (fun_mk (st := s_law_k33) l37 c37 k37)
theorem walk {l : PySem.W.OpenLaw} {q : Program} {loose : List Str} {XP : (Str → Option Value) → Heap → Prop} {YP : World → Heap → Prop} {d : DefRec} {K : Params → PySem.W.Frag} (hn : l.most = some 63) (hdf : d.params.defaults = [])
    (hY : ∀ (w : World) (h : Heap), YP w h → (K w.params).In h) (hlaw : ∀ ns : List Int, ns.length ≤ 63 → ∃ t, g_law_k33_1 [.lst (ns.map D.int)] [] = .ok (.bl true) t)
    (F : ∀ (w : World) (mg : Str → Option Value) (fa : Addr) (h : Heap), (K w.params).In h → h.Ns mainGlobals mg → mg d.name = some (.ref fa) →
      ∃ fd : FuncData, (∀ (s : Shared) (u : Value), BindsTo s fd ⟨[u], []⟩ [("_law_script", u)]) ∧ ∀ base : Heap, (K w.params).In base → base.Ns mainGlobals mg → FnOk l.prog w (K w.params) mg base CX0 9 fa fd ["_law_script"] (spAny (K w.params) (fun _ => F0) 1 g_law_k33_1)) :
    PySem.W.WalkO q loose XP YP l.row.toRowW d [] (fun f vs => PySem.call f vs) :=
  L2.walk_of (n := 63) (k := 9) (x := "_law_script") (CX := fun _ => CX0) (sp := fun w => spAny (K w.params) (fun _ => F0) 1 g_law_k33_1) hn (by decide) hdf ⟨rfl, by decide, by decide⟩ hY F (fun _ _ a ns hl hO hS cl => law_sp hlaw hl hO hS) fun _ _ _ _ _ z => z
end Lk33

open PySem PySem.W PyProof.Rows in
set_option maxRecDepth 100000 in
set_option maxHeartbeats 0 in
theorem PySem.Challenge.cw_fencemask_k33_gates_and_replies_holds : PySem.Challenge.rw_fencemask_k33_gates_and_replies.Holds := by
  w_on; o_law; k_head; (case hw => w_witness2)
  k_fill
  refine Lk33.walk (l := PySem.Challenge.rw_fencemask_k33_gates_and_replies) rfl rfl (fun w h Y => PySem.W.kIn_of Y) P.law_true_k33 ?F
  case F =>
    intro w mg fa h KX G hmg
    refine' Lk33.all_mk KX G hmg ?aC_Machine ?pg_Machine ?hd_Machine ?po_Machine ?sa_Machine ?mk_Machine ?kC_Machine ?nf_Machine_plan ?nf_Machine_code ?nf_Machine_place ?nf_Machine_boxes ?nf_Machine_memory ?nf_Machine_replies ?nf_Machine_rows ?a0 ?l0 ?c0 ?k0 ?a1 ?l1 ?c1 ?k1 ?a2 ?l2 ?c2 ?k2 ?a3 ?l3 ?c3 ?k3 ?a4 ?l4 ?c4 ?k4 ?a5 ?l5 ?c5 ?k5 ?a6 ?l6 ?c6 ?k6 ?a7 ?l7 ?c7 ?k7 ?a8 ?l8 ?c8 ?k8 ?a9 ?l9 ?c9 ?k9 ?a10 ?l10 ?c10 ?k10 ?a11 ?i11 ?l11 ?c11 ?k11 ?a12 ?i12 ?l12 ?c12 ?k12 ?a13 ?i13 ?l13 ?c13 ?k13 ?a14 ?i14 ?l14 ?c14 ?k14 ?a15 ?i15 ?l15 ?c15 ?k15 ?a16 ?i16 ?l16 ?c16 ?k16 ?a17 ?l17 ?c17 ?k17 ?a18 ?l18 ?c18 ?k18 ?a19 ?l19 ?c19 ?k19 ?a20 ?l20 ?c20 ?k20 ?a21 ?l21 ?c21 ?k21 ?a22 ?l22 ?c22 ?k22 ?a23 ?l23 ?c23 ?k23 ?a24 ?l24 ?c24 ?k24 ?a25 ?l25 ?c25 ?k25 ?a26 ?l26 ?c26 ?k26 ?a27 ?l27 ?c27 ?k27 ?a28 ?l28 ?c28 ?k28 ?a29 ?l29 ?c29 ?k29 ?a30 ?l30 ?c30 ?k30 ?a31 ?l31 ?c31 ?k31 ?a32 ?l32 ?c32 ?k32 ?a33 ?l33 ?c33 ?k33 ?a34 ?l34 ?c34 ?k34 ?a35 ?l35 ?c35 ?k35 ?a36 ?l36 ?c36 ?k36 ?a37 ?l37 ?c37 ?k37 ?z_zip ?z_len ?z_tuple ?z_int ?z_list ?z_dict ?z_abs ?z_range ?z_isinstance ?z_bool ?z_all ?z_str ?z_max ?q_SORT_BEGINS ?q_NUMBER_BITS ?q_BELOW ?o_BELOW ?i_BELOW ?s_BELOW ?q_SORTS ?o_SORTS ?i_SORTS ?s_SORTS ?q_MOST ?q_STEPS_OF_SHIFTS ?q_BUNDLE ?q_HOST ?q_FIELDS ?o_FIELDS ?e_FIELDS ?s_FIELDS ?q_BEGINS ?o_BEGINS ?e_BEGINS ?s_BEGINS
    (case aC_Machine => k_is)
    (case pg_Machine => k_is)
    (case hd_Machine => k_is)
    (case po_Machine => k_is)
    (case sa_Machine => k_is)
    (case mk_Machine => k_is)
    (case kC_Machine => k_is)
    (case nf_Machine_plan => k_is)
    (case nf_Machine_code => k_is)
    (case nf_Machine_place => k_is)
    (case nf_Machine_boxes => k_is)
    (case nf_Machine_memory => k_is)
    (case nf_Machine_replies => k_is)
    (case nf_Machine_rows => k_is)
    (case a0 => k_is)
    (case l0 => k_is)
    (case c0 => k_is)
    (case k0 => k_is)
    (case a1 => k_is)
    (case l1 => k_is)
    (case c1 => k_is)
    (case k1 => k_is)
    (case a2 => k_is)
    (case l2 => k_is)
    (case c2 => k_is)
    (case k2 => k_is)
    (case a3 => k_is)
    (case l3 => k_is)
    (case c3 => k_is)
    (case k3 => k_is)
    (case a4 => k_is)
    (case l4 => k_is)
    (case c4 => k_is)
    (case k4 => k_is)
    (case a5 => k_is)
    (case l5 => k_is)
    (case c5 => k_is)
    (case k5 => k_is)
    (case a6 => k_is)
    (case l6 => k_is)
    (case c6 => k_is)
    (case k6 => k_is)
    (case a7 => k_is)
    (case l7 => k_is)
    (case c7 => k_is)
    (case k7 => k_is)
    (case a8 => k_is)
    (case l8 => k_is)
    (case c8 => k_is)
    (case k8 => k_is)
    (case a9 => k_is)
    (case l9 => k_is)
    (case c9 => k_is)
    (case k9 => k_is)
    (case a10 => k_is)
    (case l10 => k_is)
    (case c10 => k_is)
    (case k10 => k_is)
    (case a11 => k_is)
    (case i11 => k_is)
    (case l11 => k_is)
    (case c11 => k_is)
    (case k11 => k_is)
    (case a12 => k_is)
    (case i12 => k_is)
    (case l12 => k_is)
    (case c12 => k_is)
    (case k12 => k_is)
    (case a13 => k_is)
    (case i13 => k_is)
    (case l13 => k_is)
    (case c13 => k_is)
    (case k13 => k_is)
    (case a14 => k_is)
    (case i14 => k_is)
    (case l14 => k_is)
    (case c14 => k_is)
    (case k14 => k_is)
    (case a15 => k_is)
    (case i15 => k_is)
    (case l15 => k_is)
    (case c15 => k_is)
    (case k15 => k_is)
    (case a16 => k_is)
    (case i16 => k_is)
    (case l16 => k_is)
    (case c16 => k_is)
    (case k16 => k_is)
    (case a17 => k_is)
    (case l17 => k_is)
    (case c17 => k_is)
    (case k17 => k_is)
    (case a18 => k_is)
    (case l18 => k_is)
    (case c18 => k_is)
    (case k18 => k_is)
    (case a19 => k_is)
    (case l19 => k_is)
    (case c19 => k_is)
    (case k19 => k_is)
    (case a20 => k_is)
    (case l20 => k_is)
    (case c20 => k_is)
    (case k20 => k_is)
    (case a21 => k_is)
    (case l21 => k_is)
    (case c21 => k_is)
    (case k21 => k_is)
    (case a22 => k_is)
    (case l22 => k_is)
    (case c22 => k_is)
    (case k22 => k_is)
    (case a23 => k_is)
    (case l23 => k_is)
    (case c23 => k_is)
    (case k23 => k_is)
    (case a24 => k_is)
    (case l24 => k_is)
    (case c24 => k_is)
    (case k24 => k_is)
    (case a25 => k_is)
    (case l25 => k_is)
    (case c25 => k_is)
    (case k25 => k_is)
    (case a26 => k_is)
    (case l26 => k_is)
    (case c26 => k_is)
    (case k26 => k_is)
    (case a27 => k_is)
    (case l27 => k_is)
    (case c27 => k_is)
    (case k27 => k_is)
    (case a28 => k_is)
    (case l28 => k_is)
    (case c28 => k_is)
    (case k28 => k_is)
    (case a29 => k_is)
    (case l29 => k_is)
    (case c29 => k_is)
    (case k29 => k_is)
    (case a30 => k_is)
    (case l30 => k_is)
    (case c30 => k_is)
    (case k30 => k_is)
    (case a31 => k_is)
    (case l31 => k_is)
    (case c31 => k_is)
    (case k31 => k_is)
    (case a32 => k_is)
    (case l32 => k_is)
    (case c32 => k_is)
    (case k32 => k_is)
    (case a33 => k_is)
    (case l33 => k_is)
    (case c33 => k_is)
    (case k33 => k_is)
    (case a34 => k_is)
    (case l34 => k_is)
    (case c34 => k_is)
    (case k34 => k_is)
    (case a35 => k_is)
    (case l35 => k_is)
    (case c35 => k_is)
    (case k35 => k_is)
    (case a36 => k_is)
    (case l36 => k_is)
    (case c36 => k_is)
    (case k36 => k_is)
    (case a37 => k_is)
    (case l37 => k_is)
    (case c37 => k_is)
    (case k37 => k_is)
    (case z_zip => k_is)
    (case z_len => k_is)
    (case z_tuple => k_is)
    (case z_int => k_is)
    (case z_list => k_is)
    (case z_dict => k_is)
    (case z_abs => k_is)
    (case z_range => k_is)
    (case z_isinstance => k_is)
    (case z_bool => k_is)
    (case z_all => k_is)
    (case z_str => k_is)
    (case z_max => k_is)
    (case q_SORT_BEGINS => k_is)
    (case q_NUMBER_BITS => k_is)
    (case q_BELOW => k_is)
    (case o_BELOW => k_is)
    (case i_BELOW => exact rfl)
    (case s_BELOW => decide)
    (case q_SORTS => k_is)
    (case o_SORTS => k_is)
    (case i_SORTS => exact rfl)
    (case s_SORTS => decide)
    (case q_MOST => k_is)
    (case q_STEPS_OF_SHIFTS => k_is)
    (case q_BUNDLE => k_is)
    (case q_HOST => k_is)
    (case q_FIELDS => k_is)
    (case o_FIELDS => k_is)
    (case e_FIELDS => exact rfl)
    (case s_FIELDS => rfl)
    (case q_BEGINS => k_is)
    (case o_BEGINS => k_is)
    (case e_BEGINS => exact rfl)
    (case s_BEGINS => rfl)
#print axioms PySem.Challenge.cw_fencemask_k33_gates_and_replies_holds
