import PyProof.Rows.All
import HandS.ForMost
import KE.LtData
import PyProof.ReprReads
import HandS.Comp
import HandS.Lambda
import KE.KDictKeyed
import HandS.Set
import KE.SortLaws
import HandS.IsInst
import HandS.TupAny
import HandS.Deep
import HandS.Flow
import PyProof.ReprRoads
import PyProof.CallFns
import PyProof.SumAny
import HandS.ExcValue
import HandS.Iter
import KE.KeyNested
import HandS.DictComp
import KE.SortKeyHeap
import HandS.SetFor
import HandS.SetTxt0
import HandS.Strs
import KE.KDictPairs
import HandS.Conv
import HandS.SortKw
import HandS.Words
import HandS.EndTab
import HandS.Codes
import KE.SortData
import PySem.Challenge.RW_countalike_k01_orders_of_terms_facts_and
section
set_option Elab.async false
set_option linter.all false
set_option maxRecDepth 100000
/-! The data layer, part a: values, a store of mutable lists, an own syntax, its meaning as total functions. -/
namespace DL
open PySem L2

/-- what a name may hold: plain data; a mutable list of the store; a list that is only read; a dict, a set of data, made and then only read -/
inductive D where
  | dat (d : PyData)
  | mut (l : Nat)
  | ro (xs : List PyData)
  | dic (kvs : List (PyData × PyData))
  | st (xs : List PyData)

abbrev Store := List (Option (List D))
structure Err where
  cls : Nat
  args : List D
inductive Res (α : Type) where
  | ok (a : α) (h : Store)
  | err (e : Err) (h : Store)
  | no
abbrev M (α : Type) := Store → Res α
abbrev Rho := List (Option D)
def M.ret {α : Type} (a : α) : M α := fun h => .ok a h
def M.bind {α β : Type} (m : M α) (f : α → M β) : M β := fun h => match m h with
  | .ok a h' => f a h'
  | .err e h' => .err e h'
  | .no => .no
def M.no {α : Type} : M α := fun _ => .no
def M.opt {α : Type} : Option α → M α
  | some a => .ret a
  | none => .no
def M.rd {α : Type} (f : Store → Option α) : M α := fun h => match f h with
  | some a => .ok a h
  | none => .no

inductive Bop where | add | sub | mul | fdiv | mod | pow
inductive Cop where | eq | ne | lt | le | gt | ge | isin | notin
inductive Bi where | len | abs | int | tuple | list | all | any | sum2 | set | dict | repr
inductive Ty where | int | str | bool | tuple | list
  deriving DecidableEq
inductive Tg where
  | name (i : Nat)
  | tup (is : List Nat)

mutual
inductive Ex where
  | c (d : PyData)
  | v (i : Nat)
  | g (x : Str) (d : PyData)
  | frz (i : Nat)
  | tup (es : Exs)
  | lst (es : Exs)
  | new (es : Exs)
  | bin (o : Bop) (a b : Ex)
  | neg (a : Ex)
  | cmp (o : Cop) (a b : Ex)
  | cmp2 (o o' : Cop) (a b c : Ex)
  | and (a b : Ex)
  | or (a b : Ex)
  | not (a : Ex)
  | ite (c a b : Ex)
  | ix (a b : Ex)
  | sl (a : Ex) (lo hi : Ox)
  | call (f : Nat) (es : Exs)
  | bi (b : Bi) (es : Exs)
  | isi (e : Ex) (t : Ty)
  | app (o e : Ex)
  | ext (o e : Ex)
  | get2 (o k d : Ex)
  | srt (e : Ex)
  | srtf (e : Ex) (f : Nat)
  | srtl (e b : Ex)
  | lc (e : Ex) (c : Cl)
  | lc2 (e : Ex) (c c2 : Cl)
  | dc (k : Ex) (c : Cl)
  | dc2 (k : Ex) (c c2 : Cl)
inductive Exs where
  | nil
  | cons (e : Ex) (es : Exs)
inductive Ox where
  | none
  | some (e : Ex)
inductive Cl where
  | mk (own : List Nat) (tg : Tg) (it : It) (cond : Ox)
inductive It where
  | seq (e : Ex)
  | rng (e : Ex)
  | zip (a b : Ex)
end

/-! ### helpers over data -/
def szOk (n : Nat) : Bool := decide (n ≤ 16777216)
def datAll : List D → Option (List PyData)
  | [] => some []
  | .dat d :: r => (datAll r).map (d :: ·)
  | _ :: _ => none
def lstAt (h : Store) (l : Nat) : Option (List D) := match h[l]? with
  | some (some ds) => some ds
  | _ => none
def asMut (h : Store) : D → Option Nat
  | .mut l => (lstAt h l).map fun _ => l
  | _ => none
/-- what a value reads as -/
def rdD (h : Store) : D → Option PyData
  | .dat d => some d
  | .mut l => ((lstAt h l).bind datAll).map .list
  | .ro xs => some (.list xs)
  | _ => none
def asInt : Option PyData → Option Int
  | some (.int i) => some i
  | _ => none
def asBool : Option PyData → Option Bool
  | some (.bool i) => some i
  | _ => none
def small64 (i : Int) : Bool := decide (-(2 ^ 64) < i) && decide (i < 2 ^ 64)

def opBin (o : Bop) (h : Store) (x y : D) : Option PyData := match o, rdD h x, rdD h y with
  | .add, some (.int i), some (.int j) => some (.int (i + j))
  | .add, some (.str a), some (.str b) => if szOk (a.length + b.length) then some (.str (a ++ b)) else none
  | .add, some (.tuple a), some (.tuple b) => if szOk (a.length + b.length) then some (.tuple (a ++ b)) else none
  | .add, some (.list a), some (.list b) => (match x, y with
      | .ro _, _ => none
      | _, .ro _ => none
      | _, _ => if szOk (a.length + b.length) then some (.list (a ++ b)) else none)
  | .sub, some (.int i), some (.int j) => some (.int (i - j))
  | .mul, some (.int i), some (.int j) => if small64 i || small64 j then some (.int (i * j)) else none
  | .fdiv, some (.int i), some (.int j) => if decide (0 < j) && decide (j < 1073741824) then some (.int (i / j)) else none
  | .mod, some (.int i), some (.int j) => if decide (0 < j) then some (.int (i % j)) else none
  | .pow, some (.int i), some (.int j) => if decide (0 ≤ j) && decide (j ≤ 1000000) && decide (i.natAbs < 2 ^ 64) then some (.int (i ^ j.toNat)) else none
  | _, _, _ => none

def flatD : PyData → Bool
  | .none => true
  | .bool _ => true
  | .int _ => true
  | .str _ => true
  | _ => false
def notNone : PyData → Bool
  | .none => false
  | _ => true
def isInt : PyData → Bool
  | .int _ => true
  | _ => false
def inSeq (x : PyData) (ys : List PyData) : Option Bool := if flatD x && ys.all flatD then some (ys.any fun y => PyData.eqv x y) else none
def opIn (x y : PyData) : Option Bool := match x, y with
  | .str ⟨⟨[c]⟩⟩, .str z => some (decide (c ∈ z.cps.toList))
  | x, .list ys => inSeq x ys
  | x, .tuple ys => inSeq x ys
  | _, _ => none
/-- two texts, or shaped data: == may be asked -/
def eqOk (a b : PyData) : Bool := match a, b with
  | .str _, .str _ => true
  | _, _ => SeqAt.shaped a && SeqAt.shaped b
def opCmp (o : Cop) (h : Store) (x y : D) : Option Bool := match o, rdD h x, rdD h y with
  | .eq, some a, some b => if eqOk a b then some (PyData.eqv a b) else none
  | .ne, some a, some b => if eqOk a b then some (!PyData.eqv a b) else none
  | .lt, some a, some b => if PySem.W.alike a b && decide (a.depth ≤ 64) && notNone a then some (PySem.W.dataLt a b) else none
  | .le, some (.int i), some (.int j) => some (decide (i ≤ j))
  | .gt, some (.int i), some (.int j) => some (decide (j < i))
  | .ge, some (.int i), some (.int j) => some (decide (j ≤ i))
  | .isin, some a, some b => opIn a b
  | .notin, some a, some b => (opIn a b).map (!·)
  | _, _, _ => none

/-- x op= y: numbers alone -/
def opAug (o : Bop) (x y : D) : Option D := match o, x, y with
  | .add, .dat (.int i), .dat (.int j) => some (.dat (.int (i + j)))
  | .sub, .dat (.int i), .dat (.int j) => some (.dat (.int (i - j)))
  | _, _, _ => none

/-- truth -/
def truD (h : Store) : D → Option Bool
  | .dat .none => some false
  | .dat (.bool b) => some b
  | .dat (.int i) => some (i != 0)
  | .dat (.str x) => if szOk x.length then some ((x.length : Int) != 0) else none
  | .dat (.list xs) => some (!xs.isEmpty)
  | .dat (.tuple xs) => some (!xs.isEmpty)
  | .mut l => (lstAt h l).map (!·.isEmpty)
  | .ro xs => some (!xs.isEmpty)
  | _ => none

def opIx (h : Store) (x y : D) : Option D := match x, y with
  | .dat (.list xs), .dat (.int i) => (atI xs i).map .dat
  | .dat (.tuple xs), .dat (.int i) => (atI xs i).map .dat
  | .dat (.str z), .dat (.int i) => if szOk z.length then (atI z.cps.toList i).map fun c => .dat (.str ⟨#[c]⟩) else none
  | .mut l, .dat (.int i) => (lstAt h l).bind fun ds => atI ds i
  | .ro xs, .dat (.int i) => (atI xs i).map .dat
  | _, _ => none
def cutD {α : Type} (xs : List α) (lo hi : Option Int) : List α := (xs.drop (HT.sIx xs.length 0 lo)).take (HT.sIx xs.length xs.length hi - HT.sIx xs.length 0 lo)
def opSl (h : Store) (x : D) (lo hi : Option Int) : Option PyData := match x with
  | .dat (.list xs) => some (.list (cutD xs lo hi))
  | .ro xs => some (.list (cutD xs lo hi))
  | .mut l => ((lstAt h l).bind datAll).map fun xs => .list (cutD xs lo hi)
  | _ => none

def boolsOf : List PyData → Option (List Bool)
  | [] => some []
  | .bool b :: r => (boolsOf r).map (b :: ·)
  | _ :: _ => none
def listsOf : List PyData → Option (List (List PyData))
  | [] => some []
  | .list b :: r => (listsOf r).map (b :: ·)
  | _ :: _ => none
/-- what may be a key: None, numbers, texts, tuples of such, to depth 8 -/
def keyOk : PyData → Bool
  | .none => true
  | .int _ => true
  | .str _ => true
  | .tuple xs => keyOks xs
  | _ => false
where keyOks : List PyData → Bool
  | [] => true
  | x :: r => keyOk x && keyOks r
def keyOk8 (d : PyData) : Bool := keyOk d && decide (d.depth ≤ 8)
/-- d[k] = v -/
def dput (kvs : List (PyData × PyData)) (k v : PyData) : List (PyData × PyData) := if kvs.any fun p => PyData.eqv p.1 k then kvs.map (fun p => if PyData.eqv p.1 k then (p.1, v) else p) else kvs ++ [(k, v)]
def dgetD (kvs : List (PyData × PyData)) (k : PyData) : Option PyData := (kvs.find? fun p => PyData.eqv p.1 k).map (·.2)
def dputs : List (PyData × PyData) → List (PyData × PyData) → List (PyData × PyData)
  | acc, [] => acc
  | acc, (k, v) :: r => dputs (dput acc k v) r
def pairsOf : List PyData → Option (List (PyData × PyData))
  | [] => some []
  | .tuple [k, v] :: r => if keyOk8 k then (pairsOf r).map ((k, v) :: ·) else none
  | _ :: _ => none
def sput (xs : List PyData) (k : PyData) : List PyData := if xs.any fun x => PyData.eqv x k then xs else xs ++ [k]
def strsOf : List PyData → Option (List Str)
  | [] => some []
  | .str b :: r => (strsOf r).map (b :: ·)
  | _ :: _ => none

def opBi (b : Bi) (h : Store) (as : List D) : Option D := match b, as with
  | .len, [.dat (.str x)] => if szOk x.length then some (.dat (.int x.length)) else none
  | .len, [.dat (.list x)] => some (.dat (.int x.length))
  | .len, [.dat (.tuple x)] => some (.dat (.int x.length))
  | .len, [.ro x] => some (.dat (.int x.length))
  | .len, [.mut l] => (lstAt h l).map fun x => .dat (.int x.length)
  | .abs, [.dat (.int i)] => some (.dat (.int (if i < 0 then -i else i)))
  | .int, [.dat (.int i)] => some (.dat (.int i))
  | .tuple, [x] => (match rdD h x with
      | some (.list xs) => some (.dat (.tuple xs))
      | some (.tuple xs) => some (.dat (.tuple xs))
      | _ => none)
  | .list, [x] => (match rdD h x with
      | some (.list xs) => some (.dat (.list xs))
      | some (.tuple xs) => some (.dat (.list xs))
      | _ => none)
  | .all, [.dat (.list xs)] => (boolsOf xs).map fun bs => .dat (.bool (bs.all id))
  | .any, [.dat (.list xs)] => (boolsOf xs).map fun bs => .dat (.bool (bs.any id))
  | .sum2, [.dat (.list xs), .dat (.list [])] => (listsOf xs).bind fun ls => if szOk (ls.map (·.length)).sum then some (.dat (.list ls.flatten)) else none
  | .set, [.dat (.list xs)] => (strsOf xs).bind fun ss => if decide (ss.length ≤ 1000) then some (.st (xs.foldl sput [])) else none
  | .dict, [.dat (.list xs)] => (pairsOf xs).map fun ps => .dic (dputs [] ps)
  | .repr, [x] => (rdD h x).bind fun d => if d.showable && szOk d.shown.length && decide (d.depth ≤ 64) && !d.hasDict then some (.dat (.str d.shown)) else none
  | _, _ => none
def opIsi (t : Ty) : D → Option Bool
  | .dat d => some (match d, t with
      | .int _, .int => true
      | .bool _, .int => true
      | .bool _, .bool => true
      | .str _, .str => true
      | .tuple _, .tuple => true
      | .list _, .list => true
      | _, _ => false)
  | _ => none

/-- the items that a walk gives -/
def itemsD (h : Store) : D → Option (List D)
  | .dat (.list xs) => some (xs.map .dat)
  | .dat (.tuple xs) => some (xs.map .dat)
  | .dat (.str z) => some (z.cps.toList.map fun c => .dat (.str ⟨#[c]⟩))
  | .ro xs => some (xs.map .dat)
  | _ => none
/-- what sorted takes -/
def srtOf (h : Store) : D → Option (List PyData)
  | .dat (.list xs) => some xs
  | .dat (.tuple xs) => some xs
  | .dic kvs => some (kvs.map (·.1))
  | _ => none
def allAlike : List PyData → Bool
  | ds => ds.all fun d => ds.all fun d' => PySem.W.alike d d'
def sortOk (ks : List PyData) : Bool := allAlike ks && ks.all (fun d => decide (d.depth ≤ 64) && notNone d) && decide (ks.length ≤ 16777216)
def sortD (ks xs : List PyData) : List PyData := ((ks.zip xs).mergeSort fun a b => !PySem.W.dataLt b.1 a.1).map (·.2)

def assignT (tg : Tg) (ρ : Rho) (x : D) : Option Rho := match tg, x with
  | .name i, x => some (ρ.set i (some x))
  | .tup is, .dat (.tuple ds) => if is.length = ds.length then some ((is.zip ds).foldl (fun ρ p => ρ.set p.1 (some (.dat p.2))) ρ) else none
  | _, _ => none
def wipeR (ρ : Rho) : List Nat → Rho
  | [] => ρ
  | v :: vs => (wipeR ρ vs).set v none
def tgIds : Tg → List Nat
  | .name i => [i]
  | .tup is => is

/-! ### loops, by the meaning of their parts -/
/-- one clause: each item put in the target, then what follows; the answer is put behind what there is -/
def loopC {α : Type} (f : D → α → M α) : List D → α → M α
  | [], acc => .ret acc
  | x :: r, acc => (f x acc).bind fun acc' => loopC f r acc'
def mapM' (f : PyData → M D) : List PyData → M (List PyData)
  | [] => .ret []
  | x :: r => (f x).bind fun y => match y with
    | .dat d => (mapM' f r).bind fun ds => .ret (d :: ds)
    | _ => .no
def quiet {α : Type} (m : M α) : M α := fun h => match m h with
  | .err _ _ => .no
  | r => r

section
variable (C : Nat → List D → M D)
mutual
def den : Ex → Rho → M D
  | .c d, _ => .ret (.dat d)
  | .v i, ρ => .opt (ρ[i]?.join)
  | .g _ d, _ => .ret (.dat d)
  | .frz i, ρ => (M.opt (ρ[i]?.join)).bind fun x => fun h => match x with
      | .mut l => (match (lstAt h l).bind datAll with
          | some xs => .ok (.dat (.list xs)) (h.set l none)
          | none => .no)
      | _ => .no
  | .tup es, ρ => (dens es ρ).bind fun ds => if szOk ds.length then .opt ((datAll ds).map fun xs => .dat (.tuple xs)) else .no
  | .lst es, ρ => (dens es ρ).bind fun ds => if szOk ds.length then .opt ((datAll ds).map fun xs => .dat (.list xs)) else .no
  | .new es, ρ => (dens es ρ).bind fun ds => if szOk ds.length then fun h => .ok (.mut h.length) (h ++ [some ds]) else .no
  | .bin o a b, ρ => (den a ρ).bind fun x => (den b ρ).bind fun y => .rd fun h => (opBin o h x y).map .dat
  | .neg a, ρ => (den a ρ).bind fun x => .rd fun h => (asInt (rdD h x)).map fun i => .dat (.int (-i))
  | .cmp o a b, ρ => (den a ρ).bind fun x => (den b ρ).bind fun y => .rd fun h => (opCmp o h x y).map fun b => .dat (.bool b)
  | .cmp2 o o' a b c, ρ => (den a ρ).bind fun x => (den b ρ).bind fun y => (M.rd fun h => opCmp o h x y).bind fun b =>
      if b = true then (den c ρ).bind fun z => .rd fun h => (opCmp o' h y z).map fun b => .dat (.bool b) else .ret (.dat (.bool false))
  | .and a b, ρ => (den a ρ).bind fun x => (M.rd fun h => truD h x).bind fun k => if k = true then den b ρ else .ret x
  | .or a b, ρ => (den a ρ).bind fun x => (M.rd fun h => truD h x).bind fun k => if k = true then .ret x else den b ρ
  | .not a, ρ => (den a ρ).bind fun x => (M.rd fun h => truD h x).bind fun k => .ret (.dat (.bool (!k)))
  | .ite c a b, ρ => (den c ρ).bind fun x => (M.rd fun h => truD h x).bind fun k => if k = true then den a ρ else den b ρ
  | .ix a b, ρ => (den a ρ).bind fun x => (den b ρ).bind fun y => .rd fun h => opIx h x y
  | .sl a lo hi, ρ => (den a ρ).bind fun x => (deno lo ρ).bind fun l => (deno hi ρ).bind fun u => .rd fun h => (opSl h x l u).map .dat
  | .call f es, ρ => (dens es ρ).bind fun ds => C f ds
  | .bi b es, ρ => (dens es ρ).bind fun ds => .rd fun h => opBi b h ds
  | .isi e t, ρ => (den e ρ).bind fun x => .opt ((opIsi t x).map fun b => .dat (.bool b))
  | .app o e, ρ => (den o ρ).bind fun x => (M.rd fun h => asMut h x).bind fun l => (den e ρ).bind fun y => fun h => match lstAt h l with
      | some ds => if ds.length < 16777216 then .ok (.dat .none) (h.set l (some (ds ++ [y]))) else .no
      | none => .no
  | .ext o e, ρ => (den o ρ).bind fun x => (M.rd fun h => asMut h x).bind fun l => (den e ρ).bind fun y => fun h => match lstAt h l, y with
      | some ds, .dat (.list ys) => if ds.length + ys.length ≤ 16777216 then .ok (.dat .none) (h.set l (some (ds ++ ys.map .dat))) else .no
      | _, _ => .no
  | .get2 o k d, ρ => (den o ρ).bind fun x => (den k ρ).bind fun y => (den d ρ).bind fun z => match x, y with
      | .dic kvs, .dat k => if keyOk8 k then (match dgetD kvs k with | some v => .ret (.dat v) | none => .ret z) else .no
      | _, _ => .no
  | .srt e, ρ => (den e ρ).bind fun x => fun h => match x with
      | .st xs => (match strsOf xs with | some _ => .ok (.dat (.list (sortD xs xs))) h | none => .no)
      | x => (match srtOf h x with
          | some xs => if sortOk xs then .ok (.dat (.list (sortD xs xs))) h else .no
          | none => .no)
  | .srtf e f, ρ => (den e ρ).bind fun x => (M.rd fun h => srtOf h x).bind fun xs => (quiet (mapM' (fun d => C f [.dat d]) xs)).bind fun ks => if sortOk ks then .ret (.dat (.list (sortD ks xs))) else .no
  | .srtl e b, ρ => (den e ρ).bind fun x => (M.rd fun h => srtOf h x).bind fun xs => (quiet (mapM' (fun d => den b [some (.dat d)]) xs)).bind fun ks => if sortOk ks then .ret (.dat (.list (sortD ks xs))) else .no
  | .lc e (.mk own tg it cond), ρ => (denIt it ρ).bind fun xs => (quiet (loopC (fun x acc => (M.opt (assignT tg (wipeR ρ own) x)).bind fun ρ' => (denc cond ρ').bind fun b =>
      if b = true then (den e ρ').bind fun y => (match y with
        | .dat d => if acc.length < 16777216 then .ret (acc ++ [d]) else .no
        | _ => .no) else .ret acc) xs [])).bind fun acc => .ret (.dat (.list acc))
  | .lc2 e (.mk own tg it cond) (.mk _ tg2 it2 cond2), ρ => (denIt it ρ).bind fun xs => (quiet (loopC (fun x acc => (M.opt (assignT tg (wipeR ρ own) x)).bind fun ρ' => (denc cond ρ').bind fun b =>
      if b = true then (denIt it2 ρ').bind fun xs2 => loopC (fun x2 acc => (M.opt (assignT tg2 (wipeR ρ' (tgIds tg2)) x2)).bind fun ρ2 => (denc cond2 ρ2).bind fun b =>
        if b = true then (den e ρ2).bind fun y => (match y with
          | .dat d => if acc.length < 16777216 then .ret (acc ++ [d]) else .no
          | _ => .no) else .ret acc) xs2 acc else .ret acc) xs [])).bind fun acc => .ret (.dat (.list acc))
  | .dc k (.mk own tg it cond), ρ => (denIt it ρ).bind fun xs => (quiet (loopC (fun x acc => (M.opt (assignT tg (wipeR ρ own) x)).bind fun ρ' => (denc cond ρ').bind fun b =>
      if b = true then (den k ρ').bind fun y => (match y with
        | .dat d => if keyOk8 d && decide (acc.length < 16777216) then .ret (dput acc d (.bool true)) else .no
        | _ => .no) else .ret acc) xs [])).bind fun acc => .ret (.dic acc)
  | .dc2 k (.mk own tg it cond) (.mk _ tg2 it2 cond2), ρ => (denIt it ρ).bind fun xs => (quiet (loopC (fun x acc => (M.opt (assignT tg (wipeR ρ own) x)).bind fun ρ' => (denc cond ρ').bind fun b =>
      if b = true then (denIt it2 ρ').bind fun xs2 => loopC (fun x2 acc => (M.opt (assignT tg2 (wipeR ρ' (tgIds tg2)) x2)).bind fun ρ2 => (denc cond2 ρ2).bind fun b =>
        if b = true then (den k ρ2).bind fun y => (match y with
          | .dat d => if keyOk8 d && decide (acc.length < 16777216) then .ret (dput acc d (.bool true)) else .no
          | _ => .no) else .ret acc) xs2 acc else .ret acc) xs [])).bind fun acc => .ret (.dic acc)
def dens : Exs → Rho → M (List D)
  | .nil, _ => .ret []
  | .cons e es, ρ => (den e ρ).bind fun x => (dens es ρ).bind fun xs => .ret (x :: xs)
def deno : Ox → Rho → M (Option Int)
  | .none, _ => .ret none
  | .some e, ρ => (den e ρ).bind fun x => .rd fun h => (asInt (rdD h x)).map some
def denc : Ox → Rho → M Bool
  | .none, _ => .ret true
  | .some e, ρ => (den e ρ).bind fun x => .rd fun h => truD h x
def denIt : It → Rho → M (List D)
  | .seq e, ρ => (den e ρ).bind fun x => .rd fun h => itemsD h x
  | .rng e, ρ => (den e ρ).bind fun x => .rd fun h => (asInt (rdD h x)).bind fun j => if decide (-(2 ^ 62) ≤ j) && decide (j < 2 ^ 62) then some ((List.range j.toNat).map fun (i : Nat) => .dat (.int (i : Int))) else none
  | .zip a b, ρ => (den a ρ).bind fun x => (den b ρ).bind fun y => .opt (match x, y with
      | .dat (.list xs), .dat (.list ys) => some ((xs.zip ys).map fun p => .dat (.tuple [p.1, p.2]))
      | _, _ => none)
end
end

/-! ### statements -/
mutual
inductive Sm where
  | set (i : Nat) (e : Ex)
  | par (i j : Nat) (a b : Ex)
  | aug (i : Nat) (o : Bop) (e : Ex)
  | sto (o i e : Ex)
  | augs (o i : Ex) (b : Bop) (e : Ex)
  | ex (e : Ex)
  | ret (e : Ex)
  | ite (c : Ex) (a b : Sms)
  | for (tg : Tg) (it : It) (b : Sms)
  | pass
inductive Sms where
  | nil
  | cons (s : Sm) (r : Sms)
end
inductive Oc where
  | nx (ρ : Rho)
  | rt (d : D)
def stoD (x y z : D) : M Unit := fun h => match x, y with
  | .mut l, .dat (.int i) => (match lstAt h l with
      | some ds => (match ixN ds.length i with
          | some j => .ok () (h.set l (some (ds.set j z)))
          | none => .no)
      | none => .no)
  | _, _ => .no
def loopS (f : D → Rho → M Oc) : List D → Rho → M Oc
  | [], ρ => .ret (.nx ρ)
  | x :: r, ρ => (f x ρ).bind fun o => match o with
    | .nx ρ' => loopS f r ρ'
    | .rt d => .ret (.rt d)
section
variable (C : Nat → List D → M D)
mutual
def denS : Sm → Rho → M Oc
  | .set i e, ρ => (den C e ρ).bind fun x => .ret (.nx (ρ.set i (some x)))
  | .par i j a b, ρ => (den C a ρ).bind fun x => (den C b ρ).bind fun y => .ret (.nx ((ρ.set i (some x)).set j (some y)))
  | .aug i o e, ρ => (M.opt (ρ[i]?.join)).bind fun x => (den C e ρ).bind fun y => (M.opt (opAug o x y)).bind fun d => .ret (.nx (ρ.set i (some d)))
  | .sto o i e, ρ => (den C e ρ).bind fun z => (den C o ρ).bind fun x => (den C i ρ).bind fun y => (stoD x y z).bind fun _ => .ret (.nx ρ)
  | .augs o i b e, ρ => (den C o ρ).bind fun x => (den C i ρ).bind fun y => (M.rd fun h => opIx h x y).bind fun w => (den C e ρ).bind fun z => (M.opt (opAug b w z)).bind fun r =>
      (stoD x y r).bind fun _ => .ret (.nx ρ)
  | .ex e, ρ => (den C e ρ).bind fun _ => .ret (.nx ρ)
  | .ret e, ρ => (den C e ρ).bind fun x => .ret (.rt x)
  | .ite c a b, ρ => (den C c ρ).bind fun x => (M.rd fun h => truD h x).bind fun k => if k = true then denSs a ρ else denSs b ρ
  | .for tg it b, ρ => (denIt C it ρ).bind fun xs => loopS (fun x ρ => (M.opt (assignT tg ρ x)).bind fun ρ' => denSs b ρ') xs ρ
  | .pass, ρ => .ret (.nx ρ)
def denSs : Sms → Rho → M Oc
  | .nil, ρ => .ret (.nx ρ)
  | .cons s r, ρ => (denS s ρ).bind fun o => match o with
    | .nx ρ' => denSs r ρ'
    | .rt d => .ret (.rt d)
end
end
/-- a def: its slots, its parameters, its body -/
structure Fn where
  n : Nat
  ps : Nat
  body : Sms
def runFn (C : Nat → List D → M D) (f : Fn) (as : List D) : M D :=
  if as.length = f.ps then (denSs C f.body (as.map some ++ List.replicate (f.n - f.ps) none)).bind fun o => match o with
    | .nx _ => .ret (.dat .none)
    | .rt d => .ret d
  else .no
/-- calls, by how deep they may go -/
def callN (T : List Fn) : Nat → Nat → List D → M D
  | 0, _, _ => .no
  | k + 1, f, as => match T[f]? with
    | some fn => runFn (callN T k) fn as
    | none => .no
end DL
end
section
set_option Elab.async false
set_option linter.all false
set_option maxRecDepth 100000
/-! The data layer, part b: from the model's syntax to the own one. -/
namespace DL
open PySem L2

structure CC where
  N : List Str
  sc : Scope
  fn : Str → Bool
  fns : List (Str × Nat)
  cons : List (Str × PyData)
  hm : List (Nat × Nat)
  hf : List (Nat × Nat)
  lam : Bool

def visB (sc : Scope) (x : Str) : Bool := match sc.names.lookup x with
  | some .local => true
  | some .cell => true
  | some .free => true
  | _ => false
def locB (sc : Scope) (x : Str) : Bool := match sc.names.lookup x with
  | some .local => true
  | some .cell => true
  | _ => false
def glB (sc : Scope) (x : Str) : Bool := match sc.names.lookup x with
  | some .globalImplicit => true
  | _ => false
def isLoc (sc : Scope) (x : Str) : Bool := match sc.names.lookup x with
  | some .local => true
  | _ => false
def slotOf (N : List Str) (x : Str) : Option Nat := match N.findIdx? (fun y => decide (y = x)) with
  | some i => if N[i]? = some x then some i else none
  | none => none
def badName (x : Str) : Bool := x == ("__debug__" : Str) || x == ("__classdict__" : Str) || x == ("__name__" : Str)
def posAt (p : Pos) : Nat × Nat := (p.line, p.col)
/-- a name that stores: a local or a cell of the block's own -/
def storeB (cc : CC) (x : Str) : Bool := locB cc.sc x && (cc.fn x || isLoc cc.sc x)

def constE : Const → Option PyData
  | .none => some .none
  | .bool b => some (.bool b)
  | .int i => some (.int i)
  | .str s => some (.str s)
  | _ => none
def bopOf : Operator → Option Bop
  | .Add => some .add
  | .Sub => some .sub
  | .Mult => some .mul
  | .FloorDiv => some .fdiv
  | .Mod => some .mod
  | .Pow => some .pow
  | _ => none
def copOf : CmpOp → Option Cop
  | .Eq => some .eq
  | .NotEq => some .ne
  | .Lt => some .lt
  | .LtE => some .le
  | .Gt => some .gt
  | .GtE => some .ge
  | .In => some .isin
  | .NotIn => some .notin
  | _ => none
def tyOf : List (Str × Ty) := [("int", .int), ("str", .str), ("bool", .bool), ("tuple", .tuple), ("list", .list)]
def bi1 : List (Str × Bi) := [("len", .len), ("abs", .abs), ("int", .int), ("tuple", .tuple), ("list", .list), ("all", .all), ("any", .any), ("set", .set), ("dict", .dict), ("repr", .repr)]
/-- a built-in's name that the text reads -/
def bltB (cc : CC) (x : Str) : Bool := glB cc.sc x && (cc.fns.lookup x).isNone && (cc.cons.lookup x).isNone
def tgOf (cc : CC) : Expr → Option Tg
  | .Name x _ => if storeB cc x then (slotOf cc.N x).map .name else none
  | .Tuple es _ _ => (goT es).map .tup
  | _ => none
where goT : List Expr → Option (List Nat)
  | [] => some []
  | .Name x _ :: r => if storeB cc x then (match slotOf cc.N x, goT r with
      | some i, some is => some (i :: is)
      | _, _ => none) else none
  | _ :: _ => none
def ownOf (N : List Str) (scope : Scope) : List (Str × Nat) := scope.names.filterMap fun p => match p.2 with
  | .local => (slotOf N p.1).map fun i => (p.1, i)
  | .cell => (slotOf N p.1).map fun i => (p.1, i)
  | _ => none
def inBlk (cc : CC) (scope : Scope) : CC := { cc with sc := relS scope cc.sc, fn := fun x => scope.names.lookup x == some .cell, lam := false }
def inLam (cc : CC) (x : Str) (scope : Scope) : CC := { cc with N := [x], sc := scope, fn := fun _ => true, lam := false }
/-- a lambda of one parameter that catches nothing -/
def lamB (x : Str) (scope : Scope) : Bool := decide (scope.kind = .function) && !scope.isCoroutine && !scope.isGenerator && isLoc scope x && scope.names.all fun y => !decide (y.2 = .free)
def notBare : Expr → Bool
  | .Call _ [] [] _ => false
  | _ => true

mutual
def cpE : Nat → CC → Expr → Option Ex
  | 0, _, _ => none
  | n + 1, cc, e => match e with
    | .Constant c _ _ => (constE c).map .c
    | .Name x pos => if badName x then none else if visB cc.sc x then (slotOf cc.N x).map (if cc.hf.contains (posAt pos) then .frz else .v) else if glB cc.sc x && (cc.fns.lookup x).isNone then (cc.cons.lookup x).map (.g x) else none
    | .Tuple es _ _ => (cpEs n cc es).map .tup
    | .List es pos => (cpEs n cc es).map (if cc.hm.contains (posAt pos) then .new else .lst)
    | .BinOp a o b _ => match bopOf o, cpE n cc a, cpE n cc b with
      | some o, some a, some b => some (.bin o a b)
      | _, _, _ => none
    | .UnaryOp .USub a _ => (cpE n cc a).map .neg
    | .UnaryOp .Not a _ => (cpE n cc a).map .not
    | .Compare a [o] [b] _ => if behindInMarks o b then none else match copOf o, cpE n cc a, cpE n cc b with
      | some o, some a, some b => some (.cmp o a b)
      | _, _, _ => none
    | .Compare a [o, o'] [b, c] _ => if behindInMarks o b || behindInMarks o' c then none else match copOf o, copOf o', cpE n cc a, cpE n cc b, cpE n cc c with
      | some o, some o', some a, some b, some c => some (.cmp2 o o' a b c)
      | _, _, _, _, _ => none
    | .BoolOp .And [a] _ => cpE n cc a
    | .BoolOp .Or [a] _ => cpE n cc a
    | .BoolOp .And (a :: b :: r) p => match cpE n cc a, cpE n cc (.BoolOp .And (b :: r) p) with
      | some a, some b => some (.and a b)
      | _, _ => none
    | .BoolOp .Or (a :: b :: r) p => match cpE n cc a, cpE n cc (.BoolOp .Or (b :: r) p) with
      | some a, some b => some (.or a b)
      | _, _ => none
    | .IfExp c a b _ => match cpE n cc c, cpE n cc a, cpE n cc b with
      | some c, some a, some b => some (.ite c a b)
      | _, _, _ => none
    | .Subscript a (.Slice lo hi none _) _ => match cpE n cc a, cpO n cc lo, cpO n cc hi with
      | some a, some lo, some hi => some (.sl a lo hi)
      | _, _, _ => none
    | .Subscript a b _ => match cpE n cc a, cpE n cc b with
      | some a, some b => some (.ix a b)
      | _, _ => none
    | .Call (.Name f _) args kws _ => if badName f || !glB cc.sc f then none else match cc.fns.lookup f with
      | some i => (match args, kws with
        | _ :: _, [] => (cpEs n cc args).map (.call i)
        | _, _ => none)
      | none => if (cc.cons.lookup f).isSome then none else match args, kws with
        | [a], [] => if f == ("sorted" : Str) then (cpE n cc a).map .srt else (match bi1.lookup f with
          | some b => (cpEs n cc [a]).map (.bi b)
          | none => none)
        | [a, b], [] => if f == ("sum" : Str) then (cpEs n cc [a, b]).map (.bi .sum2) else if f == ("isinstance" : Str) then (match b with
            | .Name t _ => if bltB cc t && !badName t then (match tyOf.lookup t, cpE n cc a with
              | some t, some a => some (.isi a t)
              | _, _ => none) else none
            | _ => none) else none
        | [a], [⟨some k, .Name g _, _⟩] => if f == ("sorted" : Str) && k == ("key" : Str) && !badName g && glB cc.sc g then (match cc.fns.lookup g, cpE n cc a with
            | some i, some a => some (.srtf a i)
            | _, _ => none) else none
        | [a], [⟨some k, .Lambda ⟨[], [⟨x, none, _⟩], none, [], [], none, []⟩ b scope _, _⟩] => if f == ("sorted" : Str) && k == ("key" : Str) && cc.lam && lamB x scope then (match cpE n (inLam cc x scope) b, cpE n cc a with
            | some b, some a => some (.srtl a b)
            | _, _ => none) else none
        | _, _ => none
    | .Call (.Attribute o m ap) [e] [] cp => if !(notBare o && ap.endLine == cp.line) then none else match cpE n cc o, cpE n cc e with
      | some o, some e => if m == ("append" : Str) then some (.app o e) else if m == ("extend" : Str) then some (.ext o e) else none
      | _, _ => none
    | .Call (.Attribute o m ap) [e, d] [] cp => if !(notBare o && ap.endLine == cp.line) then none else match cpE n cc o, cpE n cc e, cpE n cc d with
      | some o, some e, some d => if m == ("get" : Str) then some (.get2 o e d) else none
      | _, _, _ => none
    | .ListComp elt [g] scope _ => if !blkC cc.N cc.sc scope (ownOf cc.N scope) then none else match cpE n (inBlk cc scope) elt, cpC n cc (inBlk cc scope) ((ownOf cc.N scope).map (·.2)) g with
      | some e, some c => some (.lc e c)
      | _, _ => none
    | .ListComp elt [g, g'] scope _ => if !blkC cc.N cc.sc scope (ownOf cc.N scope) then none else match cpE n (inBlk cc scope) elt, cpC n cc (inBlk cc scope) ((ownOf cc.N scope).map (·.2)) g, cpC n (inBlk cc scope) (inBlk cc scope) ((ownOf cc.N scope).map (·.2)) g' with
      | some e, some c, some c' => some (.lc2 e c c')
      | _, _, _ => none
    | .DictComp k (.Constant (.bool true) _ _) [g] scope _ => if !blkC cc.N cc.sc scope (ownOf cc.N scope) then none else match cpE n (inBlk cc scope) k, cpC n cc (inBlk cc scope) ((ownOf cc.N scope).map (·.2)) g with
      | some e, some c => some (.dc e c)
      | _, _ => none
    | .DictComp k (.Constant (.bool true) _ _) [g, g'] scope _ => if !blkC cc.N cc.sc scope (ownOf cc.N scope) then none else match cpE n (inBlk cc scope) k, cpC n cc (inBlk cc scope) ((ownOf cc.N scope).map (·.2)) g, cpC n (inBlk cc scope) (inBlk cc scope) ((ownOf cc.N scope).map (·.2)) g' with
      | some e, some c, some c' => some (.dc2 e c c')
      | _, _, _ => none
    | _ => none
def cpEs : Nat → CC → List Expr → Option Exs
  | 0, _, _ => none
  | _ + 1, _, [] => some .nil
  | n + 1, cc, e :: r => match cpE n cc e, cpEs n cc r with
    | some e, some r => some (.cons e r)
    | _, _ => none
def cpO : Nat → CC → Option Expr → Option Ox
  | 0, _, _ => none
  | _ + 1, _, none => some .none
  | n + 1, cc, some e => (cpE n cc e).map .some
/-- a clause: its source in cc, the rest in the block's own -/
def cpC : Nat → CC → CC → List Nat → Comprehension → Option Cl
  | 0, _, _, _, _ => none
  | n + 1, cc, cb, own, ⟨tg, iter, ifs, a⟩ => if a != 0 then none else match tgOf cb tg, cpI n cc tg iter, (match ifs with
      | [] => some Ox.none
      | [c] => (cpE n cb c).map .some
      | _ => none) with
    | some t, some i, some c => if (tgIds t).all (own.contains ·) then some (.mk own t i c) else none
    | _, _, _ => none
def cpI : Nat → CC → Expr → Expr → Option It
  | 0, _, _, _ => none
  | n + 1, cc, tg, iter => match iter with
    | .Call (.Name f _) [a] [] _ => if f == ("range" : Str) && bltB cc f then (cpE n cc a).map .rng else (cpE n cc iter).map .seq
    | .Call (.Name f _) [a, b] [] _ => if f == ("zip" : Str) && bltB cc f then (match tg, cpE n cc a, cpE n cc b with
        | .Tuple _ _ _, some a, some b => some (.zip a b)
        | _, _, _ => none) else (cpE n cc iter).map .seq
    | .Set _ _ _ => none
    | e => (cpE n cc e).map .seq
end
def isComp : Expr → Bool
  | .ListComp .. => true
  | .DictComp .. => true
  | .SetComp .. => true
  | _ => false
/-- name = [..] is stored within the comprehension -/
def swapB (cc : CC) (x : Str) (pos : Pos) : Expr → Bool
  | .ListComp _ _ scope p => isLoc cc.sc x && (pos.line == p.line) && !(scope.names.any fun (n, k) => n == x && (k == .local || k == .cell))
  | _ => false
def parB (cc : CC) (x y : Str) (px py : Pos) (a b : Expr) : Bool :=
  isLoc cc.sc x && isLoc cc.sc y && (py.line == px.line) && !(x == y) && (match a, b with
    | .Call _ _ _ _, _ => true
    | .BinOp (.Call _ _ _ _) _ _ _, _ => true
    | .List _ _, _ => true
    | _, _ => false) && (match b with | .Starred _ _ => false | _ => true)
mutual
def cpS : Nat → CC → Stmt → Option Sm
  | 0, _, _ => none
  | n + 1, cc, s => match s with
    | .Assign [.Name x p] e _ => (match e with | .DictComp .. => none | .SetComp .. => none | _ => if storeB cc x then (match slotOf cc.N x, cpE n cc e with
        | some i, some e => some (.set i e)
        | _, _ => none) else none)
    | .Assign [.Tuple [.Name x px, .Name y py] _ _] (.Tuple [a, b] _ _) _ => if parB cc x y px py a b then (match slotOf cc.N x, slotOf cc.N y, cpE n cc a, cpE n cc b with
        | some i, some j, some a, some b => some (.par i j a b)
        | _, _, _, _ => none) else none
    | .Assign [.Subscript _ (.Slice ..) _] _ _ => none
    | .Assign [.Subscript o i _] e _ => (match cpE n cc o, cpE n cc i, cpE n cc e with
        | some o, some i, some e => some (.sto o i e)
        | _, _, _ => none)
    | .AugAssign (.Name x _) op e _ => if storeB cc x then (match slotOf cc.N x, bopOf op, cpE n cc e with
        | some i, some o, some e => some (.aug i o e)
        | _, _, _ => none) else none
    | .AugAssign (.Subscript _ (.Slice ..) _) _ _ _ => none
    | .AugAssign (.Subscript o i _) op e _ => (match cpE n cc o, cpE n cc i, bopOf op, cpE n cc e with
        | some o, some i, some b, some e => some (.augs o i b e)
        | _, _, _, _ => none)
    | .Expr (.Call f as ks p) _ => (cpE n cc (.Call f as ks p)).map .ex
    | .Return (some e) _ => (cpE n cc e).map .ret
    | .If c a b _ => (match cpE n cc c, cpSs n cc a, cpSs n cc b with
        | some c, some a, some b => some (.ite c a b)
        | _, _, _ => none)
    | .For tg it b [] _ => (match tgOf cc tg, cpI n cc tg it, cpSs n cc b with
        | some t, some i, some b => some (.for t i b)
        | _, _, _ => none)
    | .Pass _ => some .pass
    | _ => none
def cpSs : Nat → CC → List Stmt → Option Sms
  | 0, _, _ => none
  | _ + 1, _, [] => some .nil
  | n + 1, cc, s :: r => match cpS n cc s, cpSs n cc r with
    | some s, some r => some (.cons s r)
    | _, _ => none
end
end DL
end
section
set_option Elab.async false
set_option linter.all false
set_option autoImplicit false
set_option maxRecDepth 100000
/-! The data layer, part c: what a value and a store are in the hand layer's heap. -/
namespace DL
open PySem L2

/-- where the store's lists stand, and what is hidden: lists of the layer's own that nobody else may name -/
structure Mu where
  f : Nat → Addr
  hid : Addr → Prop
instance : CoeFun Mu (fun _ => Nat → Addr) := ⟨Mu.f⟩
/-- the addresses of the store's lists -/
def Ls (h : Store) (μ : Mu) (a : Addr) : Prop := ∃ (l : Nat) (ds : List D), h[l]? = some (some ds) ∧ μ l = a
def Lv (h : Store) (μ : Mu) (a : Addr) : Prop := Ls h μ a ∨ μ.hid a
def KTup (K : PySem.W.Frag) (a : Addr) (xs : List V) : Prop :=
  ∃ (o : Obj) (its : Array Value) (n : Nat), K.lookup a = some o ∧ o.cls = .type "tuple" ∧ o.data = .seq its n ∧ its.size ≤ sizeLine ∧ Vals xs its.toList
def KLst (K : PySem.W.Frag) (a : Addr) (xs : List V) : Prop :=
  ∃ (o : Obj) (its : Array Value) (n : Nat), K.lookup a = some o ∧ o.cls = .type "list" ∧ o.dict = none ∧ o.data = .seq its n ∧ its.size ≤ sizeLine ∧ Vals xs its.toList
def TupAt (K : PySem.W.Frag) (L : Addr → Prop) (H : Hp) (a : Addr) (xs : List V) : Prop := (Rd H a (.tup xs) ∧ ¬ L a) ∨ KTup K a xs
def RoAt (K : PySem.W.Frag) (L : Addr → Prop) (H : Hp) (a : Addr) (xs : List V) : Prop := (Rd H a (.lst xs) ∧ ¬ L a) ∨ KLst K a xs
theorem TupAt.sq {K : PySem.W.Frag} {L : Addr → Prop} {H : Hp} {a : Addr} {xs : List V} (h : TupAt K L H a xs) : SqT K H a xs := h.imp (fun z => z.1) id
theorem RoAt.sq {K : PySem.W.Frag} {L : Addr → Prop} {H : Hp} {a : Addr} {xs : List V} (h : RoAt K L H a xs) : SqL K H a xs := h.imp (fun z => z.1) id

mutual
inductive Rp (K : PySem.W.Frag) (L : Addr → Prop) (H : Hp) : V → PyData → Prop
  | non : Rp K L H .non .none
  | bl (b : Bool) : Rp K L H (.bl b) (.bool b)
  | int (i : Int) : Rp K L H (.int i) (.int i)
  | str (x : Str) : Rp K L H (.str x) (.str x)
  | lst {a : Addr} {xs : List V} {ds : List PyData} : H a = some (.lst xs) → ¬ L a → RpAll K L H xs ds → Rp K L H (.ref a) (.list ds)
  | tup {a : Addr} {xs : List V} {ds : List PyData} : TupAt K L H a xs → RpAll K L H xs ds → Rp K L H (.ref a) (.tuple ds)
inductive RpAll (K : PySem.W.Frag) (L : Addr → Prop) (H : Hp) : List V → List PyData → Prop
  | nil : RpAll K L H [] []
  | cons {v : V} {vs : List V} {d : PyData} {ds : List PyData} : Rp K L H v d → RpAll K L H vs ds → RpAll K L H (v :: vs) (d :: ds)
end

/-- hash of a key -/
def nkOf : PyData → NestedKey
  | .int i => .num i
  | .str x => .text x
  | .tuple xs => .tup (nksOf xs)
  | .bool b => .num (if b = true then 1 else 0)
  | _ => .none
where nksOf : List PyData → List NestedKey
  | [] => []
  | x :: r => nkOf x :: nksOf r
/-- a dict whose entries are (hash, key, value) -/
def dicO (a : Addr) (es : List (Int × V × V)) : HO := .ext fun h => (a == sysModules) = false ∧ es.length ≤ sizeLine ∧
  ∃ (o : Obj) (ents : Array DictEntry) (ep : Nat), h.get? a = some o ∧ o.ExactDict ∧ o.data = .dict ents ep ∧ Paired (fun (p : Int × V × V) (e : DictEntry) => e.hash = p.1 ∧ RelV p.2.1 e.key ∧ RelV p.2.2 e.val) es ents.toList

/-- the set of the texts l at a; its table can be walked -/
def SetS (w : World) (h : Heap) (a : Addr) (l : List Str) : Prop :=
  ∃ o es ep t, h.get? a = some o ∧ o.ExactSet ∧ o.data = .set es ep t ∧ (∀ e ∈ es.toList, ∃ k u, e.2 = Value.str k u ∧ e.1 = hashStr w k) ∧ (∃ l' : List Str, l'.Perm l ∧ PySem.W.EachIs (fun (e : Int × Value) k => ∃ u, e.2 = .str k u) es.toList l') ∧ l.Nodup ∧
    es.size < scanBound ∧ t.fits es.size = true ∧ Ris t.place.toList ∧ (w.params.followText "set-order" = true ∨ t.led = true)
def setSO (w : World) (a : Addr) (l : List Str) : HO := .ext fun h => SetS w h a l
section
variable (K : PySem.W.Frag) (w : World) (T : List (Addr × Str))
def DicR (L : Addr → Prop) (H : Hp) (kvs : List (PyData × PyData)) (es : List (Int × V × V)) : Prop :=
  Paired (fun (p : PyData × PyData) (q : Int × V × V) => q.1 = (nkOf p.1).hash w ∧ Rp K L H q.2.1 p.1 ∧ Rp K L H q.2.2 p.2) kvs es
/-- what a value of the layer is -/
inductive RpD (h : Store) (μ : Mu) (H : Hp) : V → D → Prop
  | dat {v : V} {d : PyData} : Rp K (Lv h μ) H v d → RpD h μ H v (.dat d)
  | mut {l : Nat} : l < h.length → RpD h μ H (.ref (μ l)) (.mut l)
  | ro {a : Addr} {vs : List V} {xs : List PyData} : RoAt K (Lv h μ) H a vs → RpAll K (Lv h μ) H vs xs → RpD h μ H (.ref a) (.ro xs)
  | dic {a : Addr} {kvs : List (PyData × PyData)} {es : List (Int × V × V)} : H a = some (dicO a es) → ¬ Lv h μ a → DicR K w (Lv h μ) H kvs es → (∀ p ∈ kvs, keyOk8 p.1 = true) → (kvs.map (·.1)).Pairwise (fun a b => PyData.eqv a b = false) → RpD h μ H (.ref a) (.dic kvs)
  | st {a : Addr} {l : List Str} : H a = some (setSO w a l) → ¬ Lv h μ a → RpD h μ H (.ref a) (.st (l.map .str))
inductive RpDs (h : Store) (μ : Mu) (H : Hp) : List V → List D → Prop
  | nil : RpDs h μ H [] []
  | cons {v : V} {vs : List V} {d : D} {ds : List D} : RpD K w h μ H v d → RpDs h μ H vs ds → RpDs h μ H (v :: vs) (d :: ds)

/-- the store in the heap -/
structure HRel (H : Hp) (h : Store) (μ : Mu) : Prop where
  obj : ∀ (l : Nat) (ds : List D), h[l]? = some (some ds) → ∃ vs, H (μ l) = some (.lst vs) ∧ RpDs K w h μ H vs ds
  inj : ∀ (l l' : Nat) (ds ds' : List D), h[l]? = some (some ds) → h[l']? = some (some ds') → μ l = μ l' → l = l'
  tab : LamX.Tabs T H
  hid : ∀ a, μ.hid a → (∃ o, H a = some o) ∧ ¬ Ls h μ a
/-- how a heap goes on, what is hidden apart -/
structure StepL (h : Store) (μ : Mu) (H : Hp) (h' : Store) (μ' : Mu) (H' : Hp) : Prop where
  ext : ∀ (a : Addr) (o : HO), H a = some o → ¬ Lv h μ a → (∀ ps, o ≠ .tbl ps) → H' a = some o
  mu : ∀ l, l < h.length → μ' l = μ l
  len : h.length ≤ h'.length
  liv : ∀ a, Ls h' μ' a → Ls h μ a ∨ H a = none
  there : ∀ (a : Addr) (o : HO), H a = some o → ∃ o', H' a = some o'
  hid : ∀ a, μ'.hid a → μ.hid a ∨ H a = none
/-- how a heap goes on -/
structure Step (h : Store) (μ : Mu) (H : Hp) (h' : Store) (μ' : Mu) (H' : Hp) : Prop extends StepL h μ H h' μ' H' where
  hkp : ∀ a, μ.hid a → μ'.hid a
  same : ∀ (a : Addr) (o : HO), μ.hid a → ¬ Ls h μ a → H a = some o → (∀ ps, o ≠ .tbl ps) → H' a = some o
end

section
variable {K : PySem.W.Frag} {w : World} {T : List (Addr × Str)} {h h1 h2 : Store} {μ μ1 μ2 : Mu} {H H1 H2 : Hp}
theorem HRel.fresh (r : HRel K w T H h μ) {a : Addr} (hp : H a = none) : ¬ Lv h μ a := fun z => by
  rcases z with ⟨l, ds, e1, e2⟩ | z
  · obtain ⟨vs, e3, _⟩ := r.obj l ds e1
    rw [e2, hp] at e3; cases e3
  · obtain ⟨⟨o, e⟩, _⟩ := r.hid a z
    rw [hp] at e; cases e
theorem StepL.dead (s : StepL h μ H h1 μ1 H1) {a : Addr} {o : HO} (e : H a = some o) (nl : ¬ Lv h μ a) : ¬ Lv h1 μ1 a := fun z => by
  rcases z with z | z
  · exact (s.liv a z).elim (fun q => nl (.inl q)) fun q => by rw [q] at e; cases e
  · exact (s.hid a z).elim (fun q => nl (.inr q)) fun q => by rw [q] at e; cases e
theorem Step.refl : Step h μ H h μ H := ⟨⟨fun _ _ e _ _ => e, fun _ _ => rfl, Nat.le_refl _, fun _ e => .inl e, fun _ o e => ⟨o, e⟩, fun _ z => .inl z⟩, fun _ z => z, fun _ _ _ _ e _ => e⟩
theorem StepL.trans (a : StepL h μ H h1 μ1 H1) (b : StepL h1 μ1 H1 h2 μ2 H2) : StepL h μ H h2 μ2 H2 where
  ext := fun c o e nl nt => b.ext c o (a.ext c o e nl nt) (a.dead e nl) nt
  mu := fun l hl => (b.mu l (Nat.lt_of_lt_of_le hl a.len)).trans (a.mu l hl)
  len := Nat.le_trans a.len b.len
  liv := fun c z => (b.liv c z).elim (a.liv c) fun q => by
    cases e : H c with
    | none => exact .inr rfl
    | some o => obtain ⟨o', e'⟩ := a.there c o e; rw [q] at e'; cases e'
  there := fun c o e => let ⟨o', e'⟩ := a.there c o e; b.there c o' e'
  hid := fun c z => (b.hid c z).elim (a.hid c) fun q => by
    cases e : H c with
    | none => exact .inr rfl
    | some o => obtain ⟨o', e'⟩ := a.there c o e; rw [q] at e'; cases e'
theorem Step.trans (a : Step h μ H h1 μ1 H1) (b : Step h1 μ1 H1 h2 μ2 H2) : Step h μ H h2 μ2 H2 where
  toStepL := a.toStepL.trans b.toStepL
  hkp := fun c z => b.hkp c (a.hkp c z)
  same := fun c o z nl e nt => b.same c o (a.hkp c z) (fun y => (a.liv c y).elim nl fun q => by rw [q] at e; cases e) (a.same c o z nl e nt) nt
/-- a new object, not of the store -/
theorem Step.new {p : Addr} {o : HO} (hp : H p = none) : Step h μ H h μ (upd H p o) where
  ext := fun a u e _ _ => by rw [upd_ne (ne_of_none e hp)]; exact e
  mu := fun _ _ => rfl
  len := Nat.le_refl _
  liv := fun _ z => .inl z
  there := fun a u e => ⟨u, by rw [upd_ne (ne_of_none e hp)]; exact e⟩
  hid := fun _ z => .inl z
  hkp := fun _ z => z
  same := fun a u _ _ e _ => by rw [upd_ne (ne_of_none e hp)]; exact e
theorem Rd.stepL (s : StepL h μ H h1 μ1 H1) {a : Addr} {u : HO} (r : Rd H a u) (nl : ¬ Lv h μ a) (nt : ∀ ps, u ≠ .tbl ps) : Rd H1 a u ∧ ¬ Lv h1 μ1 a := by
  rcases r with r | ⟨o, r⟩
  · exact ⟨.inl (s.ext _ _ r nl nt), s.dead r nl⟩
  · exact ⟨.inr ⟨o, s.ext _ _ r nl (fun _ z => by cases z)⟩, s.dead r nl⟩
theorem TupAt.stepL (s : StepL h μ H h1 μ1 H1) {a : Addr} {xs : List V} (r : TupAt K (Lv h μ) H a xs) : TupAt K (Lv h1 μ1) H1 a xs :=
  r.imp (fun z => Rd.stepL s z.1 z.2 fun _ q => by cases q) id
theorem RoAt.stepL (s : StepL h μ H h1 μ1 H1) {a : Addr} {xs : List V} (r : RoAt K (Lv h μ) H a xs) : RoAt K (Lv h1 μ1) H1 a xs :=
  r.imp (fun z => Rd.stepL s z.1 z.2 fun _ q => by cases q) id
mutual
theorem Rp.stepL (s : StepL h μ H h1 μ1 H1) : ∀ {v : V} {d : PyData}, Rp K (Lv h μ) H v d → Rp K (Lv h1 μ1) H1 v d
  | _, _, .non => .non
  | _, _, .bl b => .bl b
  | _, _, .int i => .int i
  | _, _, .str x => .str x
  | _, _, .lst e nl r => .lst (s.ext _ _ e nl fun _ q => by cases q) (s.dead e nl) (RpAll.stepL s r)
  | _, _, .tup e r => .tup (e.stepL s) (RpAll.stepL s r)
theorem RpAll.stepL (s : StepL h μ H h1 μ1 H1) : ∀ {vs : List V} {ds : List PyData}, RpAll K (Lv h μ) H vs ds → RpAll K (Lv h1 μ1) H1 vs ds
  | _, _, .nil => .nil
  | _, _, .cons r rs => .cons (r.stepL s) (RpAll.stepL s rs)
end
theorem DicR.stepL (s : StepL h μ H h1 μ1 H1) {kvs : List (PyData × PyData)} {es : List (Int × V × V)} (r : DicR K w (Lv h μ) H kvs es) : DicR K w (Lv h1 μ1) H1 kvs es :=
  Paired.mapP r fun _ _ z => ⟨z.1, z.2.1.stepL s, z.2.2.stepL s⟩
theorem RpD.stepL (s : StepL h μ H h1 μ1 H1) {v : V} {d : D} (r : RpD K w h μ H v d) : RpD K w h1 μ1 H1 v d := by
  cases r with
  | dat r => exact .dat (r.stepL s)
  | @«mut» l hl => rw [← s.mu l hl]; exact .mut (Nat.lt_of_lt_of_le hl s.len)
  | ro r rs => exact .ro (r.stepL s) (rs.stepL s)
  | st e nl => exact .st (s.ext _ _ e nl fun _ q => by cases q) (s.dead e nl)
  | dic e nl r k nd => exact .dic (s.ext _ _ e nl fun _ q => by cases q) (s.dead e nl) (r.stepL s) k nd
theorem RpDs.stepL (s : StepL h μ H h1 μ1 H1) {vs : List V} {ds : List D} (r : RpDs K w h μ H vs ds) : RpDs K w h1 μ1 H1 vs ds := by
  induction r with
  | nil => exact .nil
  | cons a _ ih => exact .cons (a.stepL s) ih
theorem Rp.step (s : Step h μ H h1 μ1 H1) {v : V} {d : PyData} (r : Rp K (Lv h μ) H v d) : Rp K (Lv h1 μ1) H1 v d := r.stepL s.toStepL
theorem RpAll.step (s : Step h μ H h1 μ1 H1) {v : List V} {d : List PyData} (r : RpAll K (Lv h μ) H v d) : RpAll K (Lv h1 μ1) H1 v d := r.stepL s.toStepL
theorem RpD.step (s : Step h μ H h1 μ1 H1) {v : V} {d : D} (r : RpD K w h μ H v d) : RpD K w h1 μ1 H1 v d := r.stepL s.toStepL
theorem RpDs.step (s : Step h μ H h1 μ1 H1) {vs : List V} {ds : List D} (r : RpDs K w h μ H vs ds) : RpDs K w h1 μ1 H1 vs ds := r.stepL s.toStepL
theorem TupAt.step (s : Step h μ H h1 μ1 H1) {a : Addr} {xs : List V} (r : TupAt K (Lv h μ) H a xs) : TupAt K (Lv h1 μ1) H1 a xs := r.stepL s.toStepL
theorem RoAt.step (s : Step h μ H h1 μ1 H1) {a : Addr} {xs : List V} (r : RoAt K (Lv h μ) H a xs) : RoAt K (Lv h1 μ1) H1 a xs := r.stepL s.toStepL
theorem RpAll.length : ∀ {vs : List V} {ds : List PyData} {L : Addr → Prop}, RpAll K L H vs ds → vs.length = ds.length
  | _, _, _, .nil => rfl
  | _, _, _, .cons _ r => by rw [List.length_cons, List.length_cons, RpAll.length r]
theorem RpDs.length {vs : List V} {ds : List D} (r : RpDs K w h μ H vs ds) : vs.length = ds.length := by
  induction r with
  | nil => rfl
  | cons _ _ ih => rw [List.length_cons, List.length_cons, ih]
/-- all that stands in the store stays, a new untracked object comes -/
theorem HRel.of_step (r : HRel K w T H h μ) (s : StepL h μ H h μ H1) (keep : ∀ l ds, h[l]? = some (some ds) → H1 (μ l) = H (μ l)) (tab : LamX.Tabs T H1) : HRel K w T H1 h μ where
  obj := fun l ds e => by
    obtain ⟨vs, e1, e2⟩ := r.obj l ds e
    exact ⟨vs, by rw [keep l ds e]; exact e1, e2.stepL s⟩
  inj := r.inj
  tab := tab
  hid := fun a z => let ⟨⟨o, e⟩, n⟩ := r.hid a z; ⟨s.there a o e, n⟩
theorem HRel.new (r : HRel K w T H h μ) {p : Addr} {o : HO} (hp : H p = none) : HRel K w T (upd H p o) h μ := by
  refine r.of_step (Step.new hp).toStepL (fun l ds e => ?_) (r.tab.ext fun b u e => by rw [upd_ne (ne_of_none e hp)]; exact e)
  obtain ⟨vs, e1, _⟩ := r.obj l ds e
  rw [upd_ne (ne_of_none e1 hp)]
end

/-! ### going on -/
def Sat {α : Type} (r : Res α) (φ : α → Store → Prop) (ψ : Err → Store → Prop) : Prop := match r with
  | .ok a h => φ a h
  | .err e h => ψ e h
  | .no => False
/-- what a raise is to find: whether there may be one, and what then holds -/
structure EK where
  may : Prop
  post : Err → Store → Mu → Hp → Prop
def Go {α : Type} (K : PySem.W.Frag) (w : World) (T : List (Addr × Str)) (E : EK) (h : Store) (μ : Mu) (H : Hp) (m : M α) (Φ : α → Store → Mu → Hp → Prop) : Prop :=
  Sat (m h) (fun a h' => ∀ μ' H', Step h μ H h' μ' H' → HRel K w T H' h' μ' → Φ a h' μ' H') fun e h' => E.may ∧ ∀ μ' H', Step h μ H h' μ' H' → HRel K w T H' h' μ' → E.post e h' μ' H'
section
variable {K : PySem.W.Frag} {w : World} {T : List (Addr × Str)} {E : EK} {h h1 h2 : Store} {μ μ1 μ2 : Mu} {H H1 H2 : Hp} {α β : Type}
theorem Go.of_ok {m : M α} {a : α} {h' : Store} {Φ : α → Store → Mu → Hp → Prop} (e : m h = .ok a h') : Go K w T E h μ H m Φ ↔ ∀ μ' H', Step h μ H h' μ' H' → HRel K w T H' h' μ' → Φ a h' μ' H' := by
  unfold Go; rw [e]; exact Iff.rfl
theorem Go.of_err {m : M α} {e' : Err} {h' : Store} {Φ : α → Store → Mu → Hp → Prop} (e : m h = .err e' h') : Go K w T E h μ H m Φ ↔ E.may ∧ ∀ μ' H', Step h μ H h' μ' H' → HRel K w T H' h' μ' → E.post e' h' μ' H' := by
  unfold Go; rw [e]; exact Iff.rfl
theorem Go.of_no {m : M α} {Φ : α → Store → Mu → Hp → Prop} (e : m h = .no) : Go K w T E h μ H m Φ ↔ False := by
  unfold Go; rw [e]; exact Iff.rfl
theorem Go.mono {m : M α} {Φ Ψ : α → Store → Mu → Hp → Prop} (g : Go K w T E h μ H m Φ) (f : ∀ a h' μ' H', Step h μ H h' μ' H' → HRel K w T H' h' μ' → Φ a h' μ' H' → Ψ a h' μ' H') : Go K w T E h μ H m Ψ := by
  cases e : m h with
  | ok a h' => exact (Go.of_ok e).mpr fun μ' H' s r => f a h' μ' H' s r ((Go.of_ok e).mp g μ' H' s r)
  | err e' h' => exact (Go.of_err e).mpr ((Go.of_err e).mp g)
  | no => exact ((Go.of_no e).mp g).elim
theorem Go.bind {m : M α} {f : α → M β} {Φ : β → Store → Mu → Hp → Prop} (g : Go K w T E h μ H (m.bind f) Φ) : Go K w T E h μ H m fun a h' μ' H' => Go K w T E h' μ' H' (f a) Φ := by
  cases e : m h with
  | ok a h' =>
    have eb : (m.bind f) h = f a h' := by unfold M.bind; rw [e]
    refine (Go.of_ok e).mpr fun μ' H' s r => ?_
    cases e2 : f a h' with
    | ok b h'' => exact (Go.of_ok e2).mpr fun μ2 H2 s2 r2 => (Go.of_ok (eb.trans e2)).mp g μ2 H2 (s.trans s2) r2
    | err b h'' => exact (Go.of_err e2).mpr ⟨((Go.of_err (eb.trans e2)).mp g).1, fun μ2 H2 s2 r2 => ((Go.of_err (eb.trans e2)).mp g).2 μ2 H2 (s.trans s2) r2⟩
    | no => exact ((Go.of_no (eb.trans e2)).mp g).elim
  | err e' h' =>
    have eb : (m.bind f) h = .err e' h' := by unfold M.bind; rw [e]
    exact (Go.of_err e).mpr ((Go.of_err eb).mp g)
  | no =>
    have eb : (m.bind f) h = .no := by unfold M.bind; rw [e]
    exact ((Go.of_no eb).mp g).elim
theorem Go.ret {a : α} {Φ : α → Store → Mu → Hp → Prop} (g : Go K w T E h μ H (M.ret a) Φ) : ∀ μ' H', Step h μ H h μ' H' → HRel K w T H' h μ' → Φ a h μ' H' := g
theorem Go.ret' {a : α} {Φ : α → Store → Mu → Hp → Prop} (g : Go K w T E h μ H (M.ret a) Φ) (r : HRel K w T H h μ) : Φ a h μ H := g μ H .refl r
theorem Go.opt {o : Option α} {Φ : α → Store → Mu → Hp → Prop} (g : Go K w T E h μ H (M.opt o) Φ) : ∃ a, o = some a ∧ ∀ μ' H', Step h μ H h μ' H' → HRel K w T H' h μ' → Φ a h μ' H' := by
  cases o with
  | some a => exact ⟨a, rfl, g⟩
  | none => exact (show False from g).elim
theorem Go.rd {f : Store → Option α} {Φ : α → Store → Mu → Hp → Prop} (g : Go K w T E h μ H (M.rd f) Φ) : ∃ a, f h = some a ∧ ∀ μ' H', Step h μ H h μ' H' → HRel K w T H' h μ' → Φ a h μ' H' := by
  cases e : f h with
  | some a => exact ⟨a, rfl, (Go.of_ok (m := M.rd f) (by unfold M.rd; rw [e])).mp g⟩
  | none => exact ((Go.of_no (m := M.rd f) (by unfold M.rd; rw [e])).mp g).elim
theorem Go.no {Φ : α → Store → Mu → Hp → Prop} (g : Go K w T E h μ H (M.no : M α) Φ) : False := g
end
/-- the slots -/
structure EnvR (K : PySem.W.Frag) (w : World) (h : Store) (μ : Mu) (H : Hp) (σ : L2.St) (ρ : Rho) : Prop where
  len : σ.length = ρ.length
  get : ∀ (i : Nat) (d : D), ρ[i]? = some (some d) → ∃ v, σ[i]? = some (some v) ∧ RpD K w h μ H v d
theorem EnvR.step {K : PySem.W.Frag} {w : World} {h h1 : Store} {μ μ1 : Mu} {H H1 : Hp} {σ : L2.St} {ρ : Rho} (e : EnvR K w h μ H σ ρ) (s : Step h μ H h1 μ1 H1) : EnvR K w h1 μ1 H1 σ ρ :=
  ⟨e.len, fun i d q => let ⟨v, e1, e2⟩ := e.get i d q; ⟨v, e1, e2.step s⟩⟩
theorem EnvR.set {K : PySem.W.Frag} {w : World} {h : Store} {μ : Mu} {H : Hp} {σ : L2.St} {ρ : Rho} (e : EnvR K w h μ H σ ρ) (i : Nat) {v : V} {d : D} (r : RpD K w h μ H v d) : EnvR K w h μ H (σ.set i (some v)) (ρ.set i (some d)) := by
  refine ⟨by rw [List.length_set, List.length_set, e.len], fun j d' q => ?_⟩
  by_cases hj : i = j
  · subst hj
    by_cases hi : i < ρ.length
    · rw [List.getElem?_set_self hi] at q
      cases q
      exact ⟨v, by rw [List.getElem?_set_self (by rw [e.len]; exact hi)], r⟩
    · rw [List.getElem?_eq_none (by rw [List.length_set]; omega)] at q
      cases q
  · rw [List.getElem?_set_ne hj] at q ⊢
    exact e.get j d' q

/-! ### the readings -/
section
variable (K : PySem.W.Frag) (w : World) (T : List (Addr × Str)) (E : EK) (C : Nat → List D → M D)
def tGo (m : Rho → M D) : TE := fun σ H Q => ∃ ρ h μ, EnvR K w h μ H σ ρ ∧ HRel K w T H h μ ∧ Go K w T E h μ H (m ρ) fun d h' μ' H' => ∀ v, RpD K w h' μ' H' v d → Q v H'
abbrev tD (e : Ex) : TE := tGo K w T E (den C e)
def tDs (es : Exs) : TA := fun σ H Q => ∃ ρ h μ, EnvR K w h μ H σ ρ ∧ HRel K w T H h μ ∧ Go K w T E h μ H (dens C es ρ) fun ds h' μ' H' => ∀ vs, RpDs K w h' μ' H' vs ds → Q vs H'
/-- as a test -/
def tT (e : Ex) : TT := fun σ H Q => ∃ ρ h μ, EnvR K w h μ H σ ρ ∧ HRel K w T H h μ ∧ Go K w T E h μ H ((den C e ρ).bind fun x => .rd fun h => truD h x) fun b h' μ' H' => Q b H'
def tO (o : Ox) : TO := fun σ H Q => ∃ ρ h μ, EnvR K w h μ H σ ρ ∧ HRel K w T H h μ ∧ Go K w T E h μ H (deno C o ρ) fun l h' μ' H' => Q l H'
end
theorem _root_.L2.PE.imp {X : Cx} {e : Expr} {t t' : TE} (p : PE X e t) (f : ∀ σ H Q, t' σ H Q → t σ H Q) : PE X e t' := ⟨fun pins s σ H Q I h => p.run pins s σ H Q I (f σ H Q h)⟩
theorem _root_.L2.PT.imp {X : Cx} {e : Expr} {t t' : TT} (p : PT X e t) (f : ∀ σ H Q, t' σ H Q → t σ H Q) : PT X e t' := ⟨fun pins s σ H Q I h => p.run pins s σ H Q I (f σ H Q h)⟩
theorem _root_.L2.PA.imp {X : Cx} {e : List Expr} {t t' : TA} (p : PA X e t) (f : ∀ σ H Q, t' σ H Q → t σ H Q) : PA X e t' := ⟨fun pos pins s σ H Q I h => p.run pos pins s σ H Q I (f σ H Q h)⟩
theorem _root_.L2.PS.imp {X : Cx} {e : Stmt} {t t' : TS} (p : PS X e t) (f : ∀ D σ H, t' D σ H → t D σ H) : PS X e t' := ⟨fun pins s σ H D I h => p.run pins s σ H D I (f D σ H h)⟩
theorem _root_.L2.PSs.imp {X : Cx} {e : List Stmt} {t t' : TS} (p : PSs X e t) (f : ∀ D σ H, t' D σ H → t D σ H) : PSs X e t' := ⟨fun pins s σ H D I h => p.run pins s σ H D I (f D σ H h)⟩
theorem _root_.L2.PO.imp {X : Cx} {e : Option Expr} {t t' : TO} (p : PO X e t) (f : ∀ σ H Q, t' σ H Q → t σ H Q) : PO X e t' := ⟨fun pins s σ H Q I h => p.run pins s σ H Q I (f σ H Q h)⟩
theorem _root_.L2.PI.imp {X : Cx} {tg e : Expr} {t t' : TI} (p : PI X tg e t) (f : ∀ σ H R, t' σ H R → t σ H R) : PI X tg e t' := ⟨fun pins s σ H R I h => p.run pins s σ H R I (f σ H R h)⟩
end DL
end
section
set_option Elab.async false
set_option linter.all false
set_option autoImplicit false
set_option maxRecDepth 100000
/-! The data layer, part d: expressions. -/
namespace DL
open PySem PySem.Spec PyProof.Rows L2

/-! ### what reads as data -/
inductive Rq (K : PySem.W.Frag) (L : Addr → Prop) (H : Hp) : V → PyData → Prop
  | of {v : V} {d : PyData} : Rp K L H v d → Rq K L H v d
  | lst {a : Addr} {xs : List V} {ds : List PyData} : H a = some (.lst xs) → RpAll K L H xs ds → Rq K L H (.ref a) (.list ds)
  | ro {a : Addr} {xs : List V} {ds : List PyData} : RoAt K L H a xs → RpAll K L H xs ds → Rq K L H (.ref a) (.list ds)
section
variable {K : PySem.W.Frag} {w : World} {T : List (Addr × Str)} {E : EK} {h h1 : Store} {μ μ1 : Mu} {H H1 : Hp} {L : Addr → Prop}
mutual
theorem Rp.dp : ∀ {v : V} {d : PyData}, Rp K L H v d → Dp K H v d
  | _, _, .non => .non
  | _, _, .bl b => .bl b
  | _, _, .int i => .int i
  | _, _, .str x => .str x
  | _, _, .lst e _ r => .lst (.inl (.inl e)) (RpAll.dp r)
  | _, _, .tup e r => .tup e.sq (RpAll.dp r)
theorem RpAll.dp : ∀ {vs : List V} {ds : List PyData}, RpAll K L H vs ds → DpAll K H vs ds
  | _, _, .nil => .nil
  | _, _, .cons r rs => .cons r.dp (RpAll.dp rs)
end
theorem Rq.dp {v : V} {d : PyData} (r : Rq K L H v d) : Dp K H v d := by
  cases r with
  | of r => exact r.dp
  | lst e r => exact .lst (.inl (.inl e)) r.dp
  | ro e r => exact .lst e.sq r.dp
theorem datAll_rep : ∀ {vs : List V} {ds : List D} {xs : List PyData}, RpDs K w h μ H vs ds → datAll ds = some xs → RpAll K (Lv h μ) H vs xs
  | _, _, _, .nil, e => by
    have e' : ([] : List PyData) = _ := Option.some.inj e
    rw [← e']; exact .nil
  | _, _, _, .cons (d := d) (ds := ds) r rs, e => by
    cases d with
    | dat x =>
      have e' : (datAll ds).map (x :: ·) = some _ := e
      cases q : datAll ds with
      | none => rw [q] at e'; cases e'
      | some ys =>
        rw [q] at e'
        have e2 : x :: ys = _ := Option.some.inj e'
        rw [← e2]
        cases r with
        | dat r => exact .cons r (datAll_rep rs q)
    | _ => cases e
theorem lstAt_some {l : Nat} {ds : List D} (e : lstAt h l = some ds) : h[l]? = some (some ds) := by
  unfold lstAt at e
  split at e
  · rename_i q; cases e; exact q
  · cases e
theorem rd_rep {v : V} {x : D} {d : PyData} (R : HRel K w T H h μ) (r : RpD K w h μ H v x) (e : rdD h x = some d) : Rq K (Lv h μ) H v d := by
  cases r with
  | dat r => cases e; exact .of r
  | @«mut» l hl =>
    have e' : ((lstAt h l).bind datAll).map PyData.list = some d := e
    cases q : lstAt h l with
    | none => rw [q] at e'; cases e'
    | some ds =>
      rw [q] at e'
      have e2 : (datAll ds).map PyData.list = some d := e'
      cases q2 : datAll ds with
      | none => rw [q2] at e2; cases e2
      | some xs =>
        rw [q2] at e2
        cases e2
        obtain ⟨vs, e3, e4⟩ := R.obj l ds (lstAt_some q)
        exact .lst e3 (datAll_rep e4 q2)
  | ro r rs => cases e; exact .ro r rs
  | dic _ _ _ _ _ => cases e
  | st _ _ => cases e
theorem Rq.int {v : V} {i : Int} (r : Rq K L H v (.int i)) : v = .int i := by
  cases r with | of r => cases r; rfl
theorem Rq.str {v : V} {i : Str} (r : Rq K L H v (.str i)) : v = .str i := by
  cases r with | of r => cases r; rfl
theorem Rq.tup {v : V} {ds : List PyData} (r : Rq K L H v (.tuple ds)) : ∃ a xs, v = .ref a ∧ TupAt K L H a xs ∧ RpAll K L H xs ds := by
  cases r with | of r => cases r with | tup e r => exact ⟨_, _, rfl, e, r⟩
theorem Rq.list {v : V} {ds : List PyData} (r : Rq K L H v (.list ds)) : ∃ a xs, v = .ref a ∧ SqL K H a xs ∧ RpAll K L H xs ds := by
  cases r with
  | of r => cases r with | lst e _ r => exact ⟨_, _, rfl, .inl (.inl e), r⟩
  | lst e r => exact ⟨_, _, rfl, .inl (.inl e), r⟩
  | ro e r => exact ⟨_, _, rfl, e.sq, r⟩
theorem RpAll.append : ∀ {vs vs' : List V} {ds ds' : List PyData}, RpAll K L H vs ds → RpAll K L H vs' ds' → RpAll K L H (vs ++ vs') (ds ++ ds')
  | _, _, _, _, .nil, b => b
  | _, _, _, _, .cons r a, b => .cons r (RpAll.append a b)
theorem RpAll.take : ∀ {vs : List V} {ds : List PyData} (n : Nat), RpAll K L H vs ds → RpAll K L H (vs.take n) (ds.take n)
  | _, _, 0, _ => .nil
  | _, _, n + 1, .nil => .nil
  | _, _, n + 1, .cons r a => .cons r (RpAll.take n a)
theorem RpAll.drop : ∀ {vs : List V} {ds : List PyData} (n : Nat), RpAll K L H vs ds → RpAll K L H (vs.drop n) (ds.drop n)
  | _, _, 0, a => a
  | _, _, n + 1, .nil => .nil
  | _, _, n + 1, .cons _ a => RpAll.drop n a
theorem RpAll.get : ∀ {vs : List V} {ds : List PyData} {i : Nat} {d : PyData}, RpAll K L H vs ds → ds[i]? = some d → ∃ v, vs[i]? = some v ∧ Rp K L H v d
  | _, _, _, _, .nil, e => by simp at e
  | _, _, 0, _, .cons r _, e => by simp at e; subst e; exact ⟨_, rfl, r⟩
  | _, _, i + 1, d, .cons _ a, e => by
    obtain ⟨v, e1, e2⟩ := RpAll.get (i := i) (d := d) a (by simpa using e)
    exact ⟨v, by simpa using e1, e2⟩
theorem RpAll.get' : ∀ {vs : List V} {ds : List PyData} {i : Nat} {v : V}, RpAll K L H vs ds → vs[i]? = some v → ∃ d, ds[i]? = some d ∧ Rp K L H v d
  | _, _, _, _, .nil, e => by simp at e
  | _, _, 0, _, .cons r _, e => by simp at e; subst e; exact ⟨_, rfl, r⟩
  | _, _, i + 1, d, .cons _ a, e => by
    obtain ⟨v, e1, e2⟩ := RpAll.get' (i := i) (v := d) a (by simpa using e)
    exact ⟨v, by simpa using e1, e2⟩
theorem RpDs.get : ∀ {vs : List V} {ds : List D} {i : Nat} {d : D}, RpDs K w h μ H vs ds → ds[i]? = some d → ∃ v, vs[i]? = some v ∧ RpD K w h μ H v d
  | _, _, _, _, .nil, e => by simp at e
  | _, _, 0, _, .cons r _, e => by simp at e; subst e; exact ⟨_, rfl, r⟩
  | _, _, i + 1, d, .cons _ a, e => by
    obtain ⟨v, e1, e2⟩ := RpDs.get (i := i) (d := d) a (by simpa using e)
    exact ⟨v, by simpa using e1, e2⟩
theorem szOk_le {n : Nat} (e : szOk n = true) : n ≤ sizeLine := by
  have e' : n ≤ 16777216 := of_decide_eq_true e
  rw [sizeLine_eq]; exact e'
theorem at_rep {vs : List V} {ds : List PyData} {i : Int} {d : PyData} (r : RpAll K L H vs ds) (e : atI ds i = some d) : ∃ v, atI vs i = some v ∧ Rp K L H v d := by
  unfold atI at e ⊢
  rw [r.length]
  cases q : ixN ds.length i with
  | none => rw [q] at e; cases e
  | some j =>
    rw [q] at e
    exact r.get e
theorem at_repD {vs : List V} {ds : List D} {i : Int} {d : D} (r : RpDs K w h μ H vs ds) (e : atI ds i = some d) : ∃ v, atI vs i = some v ∧ RpD K w h μ H v d := by
  unfold atI at e ⊢
  rw [r.length]
  cases q : ixN ds.length i with
  | none => rw [q] at e; cases e
  | some j =>
    rw [q] at e
    exact r.get e
theorem cut_rep {vs : List V} {ds : List PyData} (lo hi : Option Int) (r : RpAll K L H vs ds) : RpAll K L H (cutV vs lo hi) (cutD ds lo hi) := by
  unfold cutV cutD
  rw [r.length]
  exact (r.drop _).take _
/-- a new list, a new tuple of what stands -/
theorem new_lst {p : Addr} {vs : List V} {ds : List PyData} (hp : H p = none) (R : HRel K w T H h μ) (r : RpAll K (Lv h μ) H vs ds) : RpD K w h μ (upd H p (.lst vs)) (.ref p) (.dat (.list ds)) := by
  have s : Step h μ H h μ (upd H p (.lst vs)) := Step.new hp
  refine .dat (.lst upd_same (R.fresh hp) (r.step s))
theorem new_tup {p : Addr} {vs : List V} {ds : List PyData} (hp : H p = none) (R : HRel K w T H h μ) (r : RpAll K (Lv h μ) H vs ds) : RpD K w h μ (upd H p (.tup vs)) (.ref p) (.dat (.tuple ds)) := by
  have s : Step h μ H h μ (upd H p (.tup vs)) := Step.new hp
  refine .dat (.tup (.inl ⟨.inl upd_same, R.fresh hp⟩) (r.step s))
end

/-- what follows, by the value -/
abbrev Fin (K : PySem.W.Frag) (w : World) (T : List (Addr × Str)) (h : Store) (μ : Mu) (H : Hp) (d : D) (Q : VK) : Prop :=
  ∀ μ' H', Step h μ H h μ' H' → HRel K w T H' h μ' → ∀ v, RpD K w h μ' H' v d → Q v H'
section
variable {K : PySem.W.Frag} {w : World} {T : List (Addr × Str)} {E : EK} {h h1 : Store} {μ μ1 : Mu} {H H1 : Hp} {L : Addr → Prop}
theorem Fin.here {d : D} {v : V} {Q : VK} (f : Fin K w T h μ H d Q) (R : HRel K w T H h μ) (r : RpD K w h μ H v d) : Q v H := f μ H .refl R v r
theorem Fin.new {d : D} {p : Addr} {o : HO} {Q : VK} (f : Fin K w T h μ H d Q) (R : HRel K w T H h μ) (hp : H p = none) (r : RpD K w h μ (upd H p o) (.ref p) d) : Q (.ref p) (upd H p o) := f μ _ (Step.new hp) (R.new hp) _ r
end

section
variable {X : Cx} {T : List (Addr × Str)}
/-- an operator, by values -/
def rBin (K : PySem.W.Frag) (w : World) (T : List (Addr × Str)) (o : Bop) : R2 := fun x y H Q => ∃ h μ dx dy d, RpD K w h μ H x dx ∧ RpD K w h μ H y dy ∧ HRel K w T H h μ ∧ opBin o h dx dy = some d ∧ Fin K w T h μ H (.dat d) Q
def opOf : Bop → Operator
  | .add => .Add
  | .sub => .Sub
  | .mul => .Mult
  | .fdiv => .FloorDiv
  | .mod => .Mod
  | .pow => .Pow
theorem isLst {K : PySem.W.Frag} {w : World} {T : List (Addr × Str)} {h : Store} {μ : Mu} {H : Hp} {v : V} {x : D} {ds : List PyData} (R : HRel K w T H h μ) (r : RpD K w h μ H v x) (e : rdD h x = some (.list ds)) (n : ∀ xs, x ≠ .ro xs) :
    ∃ a xs, v = .ref a ∧ H a = some (.lst xs) ∧ RpAll K (Lv h μ) H xs ds := by
  cases r with
  | dat r => cases e; cases r with | lst e _ r => exact ⟨_, _, rfl, e, r⟩
  | @«mut» l hl =>
    have q := rd_rep R (RpD.mut (K := K) (w := w) (H := H) hl) e
    cases q with
    | of q =>
      cases q with
      | lst e _ r => exact ⟨_, _, rfl, e, r⟩
    | lst e r => exact ⟨_, _, rfl, e, r⟩
    | ro e r =>
      have e' : ((lstAt h l).bind datAll).map PyData.list = some (.list ds) := ‹rdD h (.mut l) = _›
      cases q : lstAt h l with
      | none => rw [q] at e'; cases e'
      | some ds' =>
        rw [q] at e'
        have e2 : (datAll ds').map PyData.list = some (.list ds) := e'
        cases q2 : datAll ds' with
        | none => rw [q2] at e2; cases e2
        | some xs =>
          rw [q2] at e2
          cases e2
          obtain ⟨vs, e3, e4⟩ := R.obj l ds' (lstAt_some q)
          exact ⟨_, _, rfl, e3, datAll_rep e4 q2⟩
  | ro r rs => exact (n _ rfl).elim
  | dic _ _ _ _ _ => cases e
  | st _ _ => cases e
theorem op_bin (o : Bop) : OpR X (binaryOp (opOf o)) (rBin X.K X.w T o) := by
  intro pins s σ H x y v u Q I rx ry hq
  obtain ⟨h, μ, dx, dy, d, r1, r2, R, e, f⟩ := hq
  unfold opBin at e
  split at e
  · rename_i i j e1 e2
    cases e
    obtain rfl := (rd_rep R r1 e1).int
    obtain rfl := (rd_rep R r2 e2).int
    exact op_add pins s σ H _ _ v u Q I rx ry ⟨i, j, rfl, rfl, f.here R (.dat (.int _))⟩
  · rename_i i j e1 e2
    split at e
    · rename_i z
      cases e
      obtain rfl := (rd_rep R r1 e1).str
      obtain rfl := (rd_rep R r2 e2).str
      exact op_add_str pins s σ H _ _ v u Q I rx ry ⟨i, j, rfl, rfl, szOk_le z, f.here R (.dat (.str _))⟩
    · cases e
  · rename_i i j e1 e2
    split at e
    · rename_i z
      cases e
      obtain ⟨a, xs, rfl, t1, q1⟩ := (rd_rep R r1 e1).tup
      obtain ⟨b, ys, rfl, t2, q2⟩ := (rd_rep R r2 e2).tup
      have l1 := q1.length
      have l2 := q2.length
      refine op_catA pins s σ H _ _ v u Q I rx ry ⟨a, b, xs, ys, rfl, rfl, t1.sq, t2.sq, by rw [l1, l2]; exact szOk_le z, fun e => ?_, fun _ e => ?_, fun _ _ p hp => ?_⟩
      · subst e
        cases q1
        exact f.here R (.dat (.tup t2 q2))
      · subst e
        cases q2
        rw [List.append_nil] at f
        exact f.here R (.dat (.tup t1 q1))
      · exact f.new R hp (new_tup hp R (q1.append q2))
    · cases e
  · rename_i i j e1 e2
    split at e
    · cases e
    · cases e
    · rename_i n1 n2
      split at e
      · rename_i z
        cases e
        obtain ⟨a, xs, rfl, t1, q1⟩ := isLst R r1 e1 fun xs q => n1 xs q
        obtain ⟨b, ys, rfl, t2, q2⟩ := isLst R r2 e2 fun xs q => n2 xs q
        exact op_cat pins s σ H _ _ v u Q I rx ry ⟨a, b, xs, ys, rfl, rfl, t1, t2, by rw [q1.length, q2.length]; exact szOk_le z, fun p hp => f.new R hp (new_lst hp R (q1.append q2))⟩
      · cases e
  · rename_i i j e1 e2
    cases e
    obtain rfl := (rd_rep R r1 e1).int
    obtain rfl := (rd_rep R r2 e2).int
    exact op_sub pins s σ H _ _ v u Q I rx ry ⟨i, j, rfl, rfl, f.here R (.dat (.int _))⟩
  · rename_i i j e1 e2
    split at e
    · rename_i z
      cases e
      obtain rfl := (rd_rep R r1 e1).int
      obtain rfl := (rd_rep R r2 e2).int
      refine op_mul pins s σ H _ _ v u Q I rx ry ⟨i, j, rfl, rfl, ?_, f.here R (.dat (.int _))⟩
      unfold small64 at z
      simp only [Bool.or_eq_true, Bool.and_eq_true, decide_eq_true_eq] at z
      exact z
    · cases e
  · rename_i i j e1 e2
    split at e
    · rename_i z
      cases e
      obtain rfl := (rd_rep R r1 e1).int
      obtain rfl := (rd_rep R r2 e2).int
      simp only [Bool.and_eq_true, decide_eq_true_eq] at z
      exact op_fdiv pins s σ H _ _ v u Q I rx ry ⟨i, j, rfl, rfl, z, f.here R (.dat (.int _))⟩
    · cases e
  · rename_i i j e1 e2
    split at e
    · rename_i z
      cases e
      obtain rfl := (rd_rep R r1 e1).int
      obtain rfl := (rd_rep R r2 e2).int
      simp only [decide_eq_true_eq] at z
      exact op_mod pins s σ H _ _ v u Q I rx ry ⟨i, j, rfl, rfl, z, f.here R (.dat (.int _))⟩
    · cases e
  · rename_i i j e1 e2
    split at e
    · rename_i z
      cases e
      obtain rfl := (rd_rep R r1 e1).int
      obtain rfl := (rd_rep R r2 e2).int
      simp only [Bool.and_eq_true, decide_eq_true_eq] at z
      exact op_pow pins s σ H _ _ v u Q I rx ry ⟨i, j, rfl, rfl, ⟨z.1.1, z.1.2, z.2⟩, f.here R (.dat (.int _))⟩
    · cases e
  · cases e
end
end DL
end
section
set_option Elab.async false
set_option linter.all false
set_option autoImplicit false
set_option maxRecDepth 100000
/-! The data layer, part e: comparisons, subscripts, truth, by values. -/
namespace DL
open PySem PySem.Spec PyProof.Rows L2
section
variable {K : PySem.W.Frag} {w : World} {T : List (Addr × Str)} {h : Store} {μ : Mu} {H : Hp} {L : Addr → Prop}
theorem flat_rep {v : V} {d : PyData} (r : Rp K L H v d) (f : flatD d = true) : flatV v = true := by
  cases r <;> first | rfl | cases f
theorem flats_rep : ∀ {vs : List V} {ds : List PyData}, RpAll K L H vs ds → ds.all flatD = true → vs.all flatV = true
  | _, _, .nil, _ => rfl
  | _, _, .cons r rs, f => by
    rw [List.all_cons, Bool.and_eq_true] at f ⊢
    exact ⟨flat_rep r f.1, flats_rep rs f.2⟩
theorem eqV_rep {v v' : V} {d d' : PyData} (r : Rp K L H v d) (r' : Rp K L H v' d') (f : flatD d = true) (f' : flatD d' = true) : eqV v v' = PyData.eqv d' d := by
  cases r with
  | non => cases r' with
    | non => rfl
    | bl b => rfl
    | int i => rfl
    | str x => rfl
    | _ => cases f'
  | bl b => cases r' with
    | non => rfl
    | bl b' => show (b == b') = (b' == b); exact Bool.beq_comm
    | int i => show ((if b = true then 1 else 0) == i) = (i == (if b = true then 1 else 0)); exact Bool.eq_iff_iff.mpr (by simp only [beq_iff_eq]; exact eq_comm)
    | str x => rfl
    | _ => cases f'
  | int i => cases r' with
    | non => rfl
    | bl b => show (i == (if b = true then 1 else 0)) = ((if b = true then 1 else 0) == i); exact Bool.eq_iff_iff.mpr (by simp only [beq_iff_eq]; exact eq_comm)
    | int j => show (i == j) = (j == i); exact Bool.eq_iff_iff.mpr (by simp only [beq_iff_eq]; exact eq_comm)
    | str x => rfl
    | _ => cases f'
  | str x => cases r' with
    | non => rfl
    | bl b => rfl
    | int i => rfl
    | str y => show (x == y) = (y == x); exact Bool.eq_iff_iff.mpr (by simp only [beq_iff_eq]; exact eq_comm)
    | _ => cases f'
  | _ => cases f
theorem inV_rep {v : V} {d : PyData} (r : Rp K L H v d) (f : flatD d = true) : ∀ {vs : List V} {ds : List PyData}, RpAll K L H vs ds → ds.all flatD = true → inV v vs = ds.any fun y => PyData.eqv d y
  | _, _, .nil, _ => rfl
  | _, _, .cons r' rs, f' => by
    rw [List.all_cons, Bool.and_eq_true] at f'
    have e := inV_rep r f rs f'.2
    unfold inV at e ⊢
    rw [List.any_cons, List.any_cons, e, eqV_rep r' r f'.1 f]
theorem rpFlat {v : V} {d : PyData} (r : Rq K L H v d) (f : flatD d = true) : Rp K L H v d := by
  cases r with
  | of r => exact r
  | _ => cases f
end
section
variable {X : Cx} {T : List (Addr × Str)}
def rCmp (K : PySem.W.Frag) (w : World) (T : List (Addr × Str)) (o : Cop) : R2 := fun x y H Q => ∃ h μ dx dy b, RpD K w h μ H x dx ∧ RpD K w h μ H y dy ∧ HRel K w T H h μ ∧ opCmp o h dx dy = some b ∧ Q (.bl b) H
def cmpOf : Cop → CmpOp
  | .eq => .Eq
  | .ne => .NotEq
  | .lt => .Lt
  | .le => .LtE
  | .gt => .Gt
  | .ge => .GtE
  | .isin => .In
  | .notin => .NotIn
theorem op_ltD (hu : X.A.units + 64 < cLine) : OpR X (compareOp .Lt) fun x y H Q => ∃ d e, Dp X.K H x d ∧ Dp X.K H y e ∧ PySem.W.alike d e = true ∧ d.depth ≤ 64 ∧ d ≠ .none ∧ Q (.bl (PySem.W.dataLt d e)) H := by
  intro pins s σ H x y v u Q I rx ry h
  obtain ⟨d, e, hd, he, ha, hdp, hn, q⟩ := h
  obtain ⟨as, r1⟩ := Dp.reads I d x v hd rx
  obtain ⟨bs, r2⟩ := Dp.reads I e y u he ry
  exact PySem.W.rcLt_alike d e X.A s v u as bs r1 r2 ha hn (by have : min d.depth e.depth ≤ d.depth := Nat.min_le_left _ _; omega) X.prog X.w X.xe _ ⟨.bl _, H, I, rfl, q⟩
theorem in_rep {neg : Bool} {pins : List (Addr × Obj)} {s : Shared} {σ : L2.St} {H : Hp} {x y : V} {v u : Value} {Q : VK} {L : Addr → Prop} {a b : PyData} {c : Bool} (I : Inv X pins σ H s) (rx : RelV x v) (ry : RelV y u) (r1 : Rq X.K L H x a) (r2 : Rq X.K L H y b) (e : opIn a b = some c)
    (q : Q (.bl (if neg = true then !c else c)) H) : wpAny (model X.prog X.w) X.A (compareOp (if neg = true then .NotIn else .In) v u) (EP X pins σ Q) X.xe s := by
  unfold opIn at e
  split at e
  · rename_i c' z
    cases e
    obtain rfl := r1.str
    obtain rfl := r2.str
    cases neg with
    | false => exact op_in_sign pins s σ H _ _ v u Q I rx ry ⟨c', z, rfl, rfl, q⟩
    | true => exact op_notIn_sign pins s σ H _ _ v u Q I rx ry ⟨c', z, rfl, rfl, q⟩
  · rename_i ys _
    unfold inSeq at e
    split at e
    · rename_i z
      cases e
      rw [Bool.and_eq_true] at z
      obtain ⟨p, vs, rfl, sq, rs⟩ := r2.list
      have r1' := rpFlat r1 z.1
      rw [← inV_rep r1' z.1 rs z.2] at q
      cases neg with
      | false => exact op_in_seq pins s σ H _ _ v u Q I rx ry ⟨p, vs, rfl, .inl sq, flat_rep r1' z.1, flats_rep rs z.2, q⟩
      | true => exact op_notIn_seq pins s σ H _ _ v u Q I rx ry ⟨p, vs, rfl, .inl sq, flat_rep r1' z.1, flats_rep rs z.2, q⟩
    · cases e
  · rename_i ys _
    unfold inSeq at e
    split at e
    · rename_i z
      cases e
      rw [Bool.and_eq_true] at z
      obtain ⟨p, vs, rfl, sq, rs⟩ := r2.tup
      have r1' := rpFlat r1 z.1
      rw [← inV_rep r1' z.1 rs z.2] at q
      cases neg with
      | false => exact op_in_seq pins s σ H _ _ v u Q I rx ry ⟨p, vs, rfl, .inr sq.sq, flat_rep r1' z.1, flats_rep rs z.2, q⟩
      | true => exact op_notIn_seq pins s σ H _ _ v u Q I rx ry ⟨p, vs, rfl, .inr sq.sq, flat_rep r1' z.1, flats_rep rs z.2, q⟩
    · cases e
  · cases e
theorem eqOk_cases {a b : PyData} (h : eqOk a b = true) : (∃ x y, a = .str x ∧ b = .str y) ∨ (SeqAt.shaped a = true ∧ SeqAt.shaped b = true) := by
  unfold eqOk at h
  split at h
  · exact .inl ⟨_, _, rfl, rfl⟩
  · rw [Bool.and_eq_true] at h
    exact .inr h
theorem op_cmp (hu : X.A.units + 64 < cLine) (o : Cop) : OpR X (compareOp (cmpOf o)) (rCmp X.K X.w T o) := by
  intro pins s σ H x y v u Q I rx ry hq
  obtain ⟨h, μ, dx, dy, b, r1, r2, R, e, q⟩ := hq
  unfold opCmp at e
  split at e
  · rename_i i j e1 e2
    split at e
    · rename_i z
      cases e
      rcases eqOk_cases z with ⟨a, b, rfl, rfl⟩ | z
      · obtain rfl := (rd_rep R r1 e1).str
        obtain rfl := (rd_rep R r2 e2).str
        exact op_eq pins s σ H _ _ v u Q I rx ry ⟨rfl, by rw [dec_str]; exact q⟩
      exact op_eqD hu pins s σ H _ _ v u Q I rx ry ⟨_, _, (rd_rep R r1 e1).dp, (rd_rep R r2 e2).dp, z.1, z.2, q⟩
    · cases e
  · rename_i i j e1 e2
    split at e
    · rename_i z
      cases e
      rcases eqOk_cases z with ⟨a, b, rfl, rfl⟩ | z
      · obtain rfl := (rd_rep R r1 e1).str
        obtain rfl := (rd_rep R r2 e2).str
        exact op_ne pins s σ H _ _ v u Q I rx ry ⟨rfl, by rw [dec_str]; exact q⟩
      exact op_neD hu pins s σ H _ _ v u Q I rx ry ⟨_, _, (rd_rep R r1 e1).dp, (rd_rep R r2 e2).dp, z.1, z.2, q⟩
    · cases e
  · rename_i i j e1 e2
    split at e
    · rename_i z
      cases e
      rw [Bool.and_eq_true, Bool.and_eq_true, decide_eq_true_eq] at z
      refine op_ltD hu pins s σ H _ _ v u Q I rx ry ⟨_, _, (rd_rep R r1 e1).dp, (rd_rep R r2 e2).dp, z.1.1, z.1.2, fun z' => ?_, q⟩
      have z2 := z.2
      subst z'
      exact absurd (show false = true from z2) (by decide)
    · cases e
  · rename_i i j e1 e2
    cases e
    obtain rfl := (rd_rep R r1 e1).int
    obtain rfl := (rd_rep R r2 e2).int
    exact op_le pins s σ H _ _ v u Q I rx ry ⟨i, j, rfl, rfl, q⟩
  · rename_i i j e1 e2
    cases e
    obtain rfl := (rd_rep R r1 e1).int
    obtain rfl := (rd_rep R r2 e2).int
    exact op_gt pins s σ H _ _ v u Q I rx ry ⟨i, j, rfl, rfl, q⟩
  · rename_i i j e1 e2
    cases e
    obtain rfl := (rd_rep R r1 e1).int
    obtain rfl := (rd_rep R r2 e2).int
    exact op_ge pins s σ H _ _ v u Q I rx ry ⟨i, j, rfl, rfl, q⟩
  · rename_i i j e1 e2
    exact in_rep (neg := false) I rx ry (rd_rep R r1 e1) (rd_rep R r2 e2) e q
  · rename_i i j e1 e2
    cases q2 : opIn i j with
    | none => rw [q2] at e; cases e
    | some c =>
      rw [q2] at e
      have e' : (!c) = b := Option.some.inj e
      subst e'
      exact in_rep (neg := true) I rx ry (rd_rep R r1 e1) (rd_rep R r2 e2) q2 q
  · cases e

/-! ### truth -/
theorem tru_rep {K : PySem.W.Frag} {w : World} {T : List (Addr × Str)} {h : Store} {μ : Mu} {H : Hp} {v : V} {d : D} {b : Bool} (R : HRel K w T H h μ) (r : RpD K w h μ H v d) (e : truD h d = some b) : TruV K v H b := by
  cases r with
  | dat r =>
    cases r with
    | non => cases e; rfl
    | bl b => cases e; rfl
    | int i => cases e; rfl
    | str x =>
      have e' : (if szOk x.length = true then some ((x.length : Int) != 0) else none) = some b := e
      split at e'
      · rename_i z; cases e'; exact ⟨szOk_le z, rfl⟩
      · cases e'
    | lst e1 _ rs =>
      cases e
      refine .inl ⟨_, .inl (.inl e1), ?_⟩
      cases rs <;> rfl
    | tup e1 rs =>
      cases e
      refine .inr (.inl ⟨_, e1.sq, ?_⟩)
      cases rs <;> rfl
  | @«mut» l hl =>
    have e' : (lstAt h l).map (!·.isEmpty) = some b := e
    cases q : lstAt h l with
    | none => rw [q] at e'; cases e'
    | some ds =>
      rw [q] at e'
      cases e'
      obtain ⟨vs, e1, rs⟩ := R.obj l ds (lstAt_some q)
      refine .inl ⟨_, .inl (.inl e1), ?_⟩
      cases rs <;> rfl
  | ro e1 rs =>
    cases e
    refine .inl ⟨_, e1.sq, ?_⟩
    cases rs <;> rfl
  | dic _ _ _ _ _ => cases e
  | st _ _ => cases e

/-! ### subscripts -/
def rIxD (K : PySem.W.Frag) (w : World) (T : List (Addr × Str)) : R2 := fun x y H Q => ∃ h μ dx dy d, RpD K w h μ H x dx ∧ RpD K w h μ H y dy ∧ HRel K w T H h μ ∧ opIx h dx dy = some d ∧ ∀ v, RpD K w h μ H v d → Q v H
theorem ixD_seq {K : PySem.W.Frag} {w : World} {T : List (Addr × Str)} {x y : V} {H : Hp} {Q : VK} (hq : rIxD K w T x y H Q) : rIx K x y H Q := by
  obtain ⟨h, μ, dx, dy, d, r1, r2, R, e, f⟩ := hq
  unfold opIx at e
  split at e
  · rename_i xs i
    cases q : atI xs i with
    | none => rw [q] at e; cases e
    | some z =>
      rw [q] at e
      cases e
      cases r1 with
      | dat r1 =>
        cases r1 with
        | lst e1 nl rs =>
          cases r2 with
          | dat r2 =>
            cases r2
            obtain ⟨v, q2, rv⟩ := at_rep rs q
            exact .inl ⟨_, _, i, v, rfl, rfl, .inl (.inl e1), q2, f v (.dat rv)⟩
  · rename_i xs i
    cases q : atI xs i with
    | none => rw [q] at e; cases e
    | some z =>
      rw [q] at e
      cases e
      cases r1 with
      | dat r1 =>
        cases r1 with
        | tup e1 rs =>
          cases r2 with
          | dat r2 =>
            cases r2
            obtain ⟨v, q2, rv⟩ := at_rep rs q
            exact .inr (.inl ⟨_, _, i, v, rfl, rfl, e1.sq, q2, f v (.dat rv)⟩)
  · rename_i z i
    split at e
    · rename_i hz
      cases q : atI z.cps.toList i with
      | none => rw [q] at e; cases e
      | some c =>
        rw [q] at e
        cases e
        cases r1 with
        | dat r1 =>
          cases r1
          cases r2 with
          | dat r2 =>
            cases r2
            exact .inr (.inr ⟨z, i, c, rfl, rfl, szOk_le hz, q, f _ (.dat (.str _))⟩)
    · cases e
  · rename_i l i
    cases q : lstAt h l with
    | none => rw [q] at e; cases e
    | some ds =>
      rw [q] at e
      have e' : atI ds i = some d := e
      cases r1 with
      | «mut» hl =>
        cases r2 with
        | dat r2 =>
          cases r2
          obtain ⟨vs, e1, rs⟩ := R.obj l ds (lstAt_some q)
          obtain ⟨v, q2, rv⟩ := at_repD rs e'
          exact .inl ⟨_, _, i, v, rfl, rfl, .inl (.inl e1), q2, f v rv⟩
  · rename_i xs i
    cases q : atI xs i with
    | none => rw [q] at e; cases e
    | some z =>
      rw [q] at e
      cases e
      cases r1 with
      | ro e1 rs =>
        cases r2 with
        | dat r2 =>
          cases r2
          obtain ⟨v, q2, rv⟩ := at_rep rs q
          exact .inl ⟨_, _, i, v, rfl, rfl, e1.sq, q2, f v (.dat rv)⟩
  · cases e
/-- a slice of a list -/
theorem slD {K : PySem.W.Frag} {w : World} {T : List (Addr × Str)} {h : Store} {μ : Mu} {H : Hp} {x : V} {dx : D} {d : PyData} {lo hi : Option Int} {Q : VK} (R : HRel K w T H h μ) (r : RpD K w h μ H x dx) (e : opSl h dx lo hi = some d) (f : Fin K w T h μ H (.dat d) Q) : rSlL K x lo hi H Q := by
  cases r with
  | dat r =>
    cases r with
    | lst e1 _ rs =>
      cases e
      exact ⟨_, _, rfl, .inl (.inl e1), fun p hp => f.new R hp (new_lst hp R (cut_rep lo hi rs))⟩
    | _ => cases e
  | @«mut» l hl =>
    have e' : ((lstAt h l).bind datAll).map (fun xs => PyData.list (cutD xs lo hi)) = some d := e
    cases q : lstAt h l with
    | none => rw [q] at e'; cases e'
    | some ds =>
      rw [q] at e'
      have e2 : (datAll ds).map (fun xs => PyData.list (cutD xs lo hi)) = some d := e'
      cases q2 : datAll ds with
      | none => rw [q2] at e2; cases e2
      | some xs =>
        rw [q2] at e2
        cases e2
        obtain ⟨vs, e3, rs⟩ := R.obj l ds (lstAt_some q)
        exact ⟨_, _, rfl, .inl (.inl e3), fun p hp => f.new R hp (new_lst hp R (cut_rep lo hi (datAll_rep rs q2)))⟩
  | ro e1 rs =>
    cases e
    exact ⟨_, _, rfl, e1.sq, fun p hp => f.new R hp (new_lst hp R (cut_rep lo hi rs))⟩
  | dic _ _ _ _ _ => cases e
  | st _ _ => cases e
end
end DL
end
section
set_option Elab.async false
set_option linter.all false
set_option autoImplicit false
set_option maxRecDepth 100000
/-! The data layer, part f: expressions' rules. -/
namespace DL
open PySem PySem.Spec PyProof.Rows L2
abbrev PDE (X : Cx) (T : List (Addr × Str)) (E : EK) (C : Nat → List D → M D) (e : Expr) (x : Ex) : Prop := PE X e (tD X.K X.w T E C x)
abbrev PDT (X : Cx) (T : List (Addr × Str)) (E : EK) (C : Nat → List D → M D) (e : Expr) (x : Ex) : Prop := PT X e (tT X.K X.w T E C x)
abbrev PDW (X : Cx) (T : List (Addr × Str)) (E : EK) (C : Nat → List D → M D) (e : Expr) (x : Ex) : Prop := PW X e (tT X.K X.w T E C x)
abbrev PDA (X : Cx) (T : List (Addr × Str)) (E : EK) (C : Nat → List D → M D) (e : List Expr) (x : Exs) : Prop := PA X e (tDs X.K X.w T E C x)
section
variable {X : Cx} {T : List (Addr × Str)} {E : EK} {C : Nat → List D → M D} {pos : Pos}
theorem pd_const {c : Const} {k : Nat} {d : PyData} (e : constE c = some d) : PDE X T E C (.Constant c k pos) (.c d) := by
  cases c with
  | none => cases e; exact pe_non.imp fun σ H Q ⟨ρ, h, μ, en, R, g⟩ => Go.ret' g R _ (.dat .non)
  | bool b => cases e; exact pe_bl.imp fun σ H Q ⟨ρ, h, μ, en, R, g⟩ => Go.ret' g R _ (.dat (.bl b))
  | int i => cases e; exact pe_int.imp fun σ H Q ⟨ρ, h, μ, en, R, g⟩ => Go.ret' g R _ (.dat (.int i))
  | str x => cases e; exact pe_str.imp fun σ H Q ⟨ρ, h, μ, en, R, g⟩ => Go.ret' g R _ (.dat (.str x))
  | _ => cases e
theorem join_some {α : Type} {o : Option (Option α)} {a : α} (e : o.join = some a) : o = some (some a) := by
  cases o with
  | none => cases e
  | some o => exact congrArg some e
theorem pd_var {i : Nat} {x : Str} (hN : X.N[i]? = some x) (hv : Vis X.env.scope x) (hd : (x == ("__debug__" : Str)) = false) (hcd : (x == ("__classdict__" : Str)) = false) : PDE X T E C (.Name x pos) (.v i) :=
  (pe_var hN hv hd hcd).imp fun σ H Q ⟨ρ, h, μ, en, R, g⟩ => by
    obtain ⟨d, e, f⟩ := Go.opt g
    obtain ⟨v, e1, r⟩ := en.get i d (join_some e)
    exact ⟨v, e1, f μ H .refl R v r⟩
theorem pd_frz {i : Nat} {x : Str} (hN : X.N[i]? = some x) (hv : Vis X.env.scope x) (hd : (x == ("__debug__" : Str)) = false) (hcd : (x == ("__classdict__" : Str)) = false) : PDE X T E C (.Name x pos) (.frz i) :=
  (pe_var hN hv hd hcd).imp fun σ H Q ⟨ρ, h, μ, en, R, g⟩ => by
    obtain ⟨d, e, f⟩ := Go.opt (Go.bind g)
    obtain ⟨v, e1, r⟩ := en.get i d (join_some e)
    refine ⟨v, e1, ?_⟩
    have g2 := f μ H .refl R
    cases r with
    | dat r => exact ((Go.of_no rfl).mp g2).elim
    | ro r rs => exact ((Go.of_no rfl).mp g2).elim
    | dic _ _ _ _ _ => exact ((Go.of_no rfl).mp g2).elim
    | st _ _ => exact ((Go.of_no rfl).mp g2).elim
    | @«mut» l hl =>
      cases q : (lstAt h l).bind datAll with
      | none => exact ((Go.of_no (by show (match (lstAt h l).bind datAll with | some xs => Res.ok (D.dat (.list xs)) (h.set l none) | none => Res.no) = _; rw [q])).mp g2).elim
      | some xs =>
        have g3 := (Go.of_ok (by show (match (lstAt h l).bind datAll with | some xs => Res.ok (D.dat (.list xs)) (h.set l none) | none => Res.no) = _; rw [q])).mp g2
        cases q1 : lstAt h l with
        | none => rw [q1] at q; cases q
        | some ds =>
          rw [q1] at q
          have hl' := lstAt_some q1
          obtain ⟨vs, e2, rs⟩ := R.obj l ds hl'
          have sub : ∀ a, Ls (h.set l none) μ a → Ls h μ a ∧ a ≠ μ l := fun a ⟨l', ds', e3, e4⟩ => by
            by_cases z : l = l'
            · subst z
              rw [List.getElem?_set_self hl] at e3; cases e3
            · rw [List.getElem?_set_ne z] at e3
              exact ⟨⟨l', ds', e3, e4⟩, fun z2 => z (R.inj l l' ds ds' hl' e3 (z2.symm.trans e4.symm))⟩
          have st : Step h μ H (h.set l none) μ H := ⟨⟨fun _ _ e _ _ => e, fun _ _ => rfl, by rw [List.length_set]; exact Nat.le_refl _, fun a z => .inl (sub a z).1, fun _ o e => ⟨o, e⟩, fun _ z => .inl z⟩, fun _ z => z, fun _ _ _ _ e _ => e⟩
          have R' : HRel X.K X.w T H (h.set l none) μ := ⟨fun l' ds' e3 => by
            by_cases z : l = l'
            · subst z
              rw [List.getElem?_set_self hl] at e3; cases e3
            · rw [List.getElem?_set_ne z] at e3
              obtain ⟨vs', e5, e6⟩ := R.obj l' ds' e3
              exact ⟨vs', e5, e6.step st⟩, fun l1 l2 d1 d2 e3 e4 e5 => by
            by_cases z : l = l1
            · subst z
              rw [List.getElem?_set_self hl] at e3; cases e3
            · by_cases z2 : l = l2
              · subst z2
                rw [List.getElem?_set_self hl] at e4; cases e4
              · rw [List.getElem?_set_ne z] at e3
                rw [List.getElem?_set_ne z2] at e4
                exact R.inj l1 l2 d1 d2 e3 e4 e5, R.tab, fun a z => ⟨(R.hid a z).1, fun y => (R.hid a z).2 (sub a y).1⟩⟩
          exact g3 μ H st R' _ (.dat (.lst e2 (fun z => z.elim (fun z => (sub _ z).2 rfl) fun z => (R.hid _ z).2 ⟨l, ds, hl', rfl⟩) (datAll_rep (rs.step st) q)))
theorem pd_glob {x : Str} {v : V} {u : Value} {d : PyData} (hg : Gl X x) (hm : X.mg x = some u) (r : RelV v u) (hr : ∀ L H, Rp X.K L H v d) (hd : (x == ("__debug__" : Str)) = false) : PDE X T E C (.Name x pos) (.g x d) :=
  (pe_glob hg hm r hd).imp fun σ H Q ⟨ρ, h, μ, en, R, g⟩ => Go.ret' g R _ (.dat (hr _ _))

/-! ### lists of expressions -/
theorem pda_nil : PDA X T E C [] .nil := pa_nil.imp fun σ H Q ⟨ρ, h, μ, en, R, g⟩ => Go.ret' g R _ .nil
theorem starEach_ne {e : Expr} {es : List Expr} {env : Env} (h : ∀ a b, e ≠ .Starred a b) : starEach (e :: es) env = (false, eval e env) :: starEach es env := by
  cases e <;> first | rfl | exact absurd rfl (h _ _)
theorem pda_cons {e : Expr} {es : List Expr} {x : Ex} {xs : Exs} (he : PDE X T E C e x) (hs : PDA X T E C es xs) (hn : ∀ a b, e ≠ .Starred a b) : PDA X T E C (e :: es) (.cons x xs) :=
  (pa_cons he hs (starEach_ne hn)).imp fun σ H Q ⟨ρ, h, μ, en, R, g⟩ =>
    ⟨ρ, h, μ, en, R, g.bind.mono fun d h1 μ1 H1 s1 R1 g1 v rv => ⟨ρ, h1, μ1, en.step s1, R1, g1.bind.mono fun ds h2 μ2 H2 s2 R2 g2 vs rvs => Go.ret' g2 R2 _ (.cons (rv.step s2) rvs)⟩⟩
theorem Go.ite {K : PySem.W.Frag} {w : World} {T : List (Addr × Str)} {E : EK} {h : Store} {μ : Mu} {H : Hp} {α : Type} {c : Bool} {m : M α} {Φ : α → Store → Mu → Hp → Prop} (g : Go K w T E h μ H (if c = true then m else .no) Φ) : c = true ∧ Go K w T E h μ H m Φ := by
  cases c with
  | true => exact ⟨rfl, g⟩
  | false => exact (Go.no g).elim
theorem pd_tup {es : List Expr} {xs : Exs} {k : Nat} (h : PDA X T E C es xs) : PDE X T E C (.Tuple es k pos) (.tup xs) :=
  (pe_tup h).imp fun σ H Q ⟨ρ, h, μ, en, R, g⟩ => ⟨ρ, h, μ, en, R, g.bind.mono fun ds h1 μ1 H1 s1 R1 g1 vs rs => by
    obtain ⟨hz, g2⟩ := g1.ite
    obtain ⟨d, e, f⟩ := Go.opt g2
    cases q : datAll ds with
    | none => rw [q] at e; cases e
    | some ys =>
      rw [q] at e
      cases e
      exact ⟨by rw [rs.length]; exact szOk_le hz, fun p hp => Fin.new (T := T) f R1 hp (new_tup hp R1 (datAll_rep rs q))⟩⟩
theorem pd_lst {es : List Expr} {xs : Exs} (h : PDA X T E C es xs) : PDE X T E C (.List es pos) (.lst xs) :=
  (pe_lst h).imp fun σ H Q ⟨ρ, h, μ, en, R, g⟩ => ⟨ρ, h, μ, en, R, g.bind.mono fun ds h1 μ1 H1 s1 R1 g1 vs rs => by
    obtain ⟨hz, g2⟩ := g1.ite
    obtain ⟨d, e, f⟩ := Go.opt g2
    cases q : datAll ds with
    | none => rw [q] at e; cases e
    | some ys =>
      rw [q] at e
      cases e
      exact ⟨by rw [rs.length]; exact szOk_le hz, fun p hp => Fin.new (T := T) f R1 hp (new_lst hp R1 (datAll_rep rs q))⟩⟩
/-- a new list of the store -/
theorem alloc_step {K : PySem.W.Frag} {w : World} {h : Store} {μ : Mu} {H : Hp} {p : Addr} {vs : List V} {ds : List D} (hp : H p = none) (R : HRel K w T H h μ) (rs : RpDs K w h μ H vs ds) :
    Step h μ H (h ++ [some ds]) ⟨fun l => if l = h.length then p else μ l, μ.hid⟩ (upd H p (.lst vs)) ∧ HRel K w T (upd H p (.lst vs)) (h ++ [some ds]) ⟨fun l => if l = h.length then p else μ l, μ.hid⟩ := by
  have at_old : ∀ (l : Nat) (ds' : List D), l < h.length → ((h ++ [some ds])[l]? = some (some ds') ↔ h[l]? = some (some ds')) := fun l ds' hl => by rw [List.getElem?_append_left hl]
  have old_mu : ∀ (l : Nat) (ds' : List D), h[l]? = some (some ds') → l < h.length := fun l ds' e => (List.getElem?_eq_some_iff.mp e).1
  have cases2 : ∀ (l : Nat) (ds' : List D), (h ++ [some ds])[l]? = some (some ds') → (l < h.length ∧ h[l]? = some (some ds')) ∨ (l = h.length ∧ ds' = ds) := fun l ds' e => by
    by_cases hl : l < h.length
    · exact .inl ⟨hl, (at_old l ds' hl).mp e⟩
    · have e0 : l = h.length := by
        have := (List.getElem?_eq_some_iff.mp e).1
        rw [List.length_append, List.length_singleton] at this
        omega
      subst e0
      rw [List.getElem?_append_right (Nat.le_refl _), Nat.sub_self] at e
      cases e
      exact .inr ⟨rfl, rfl⟩
  have st : Step h μ H (h ++ [some ds]) ⟨fun l => if l = h.length then p else μ l, μ.hid⟩ (upd H p (.lst vs)) := by
    refine ⟨⟨fun a u e _ _ => by rw [upd_ne (ne_of_none e hp)]; exact e, fun l hl => if_neg (Nat.ne_of_lt hl), by rw [List.length_append]; exact Nat.le_add_right _ _, fun a z => ?_, fun a u e => ⟨u, by rw [upd_ne (ne_of_none e hp)]; exact e⟩, fun _ z => .inl z⟩, fun _ z => z, fun a u _ _ e _ => by rw [upd_ne (ne_of_none e hp)]; exact e⟩
    obtain ⟨l, ds', e1, e2⟩ := z
    rcases cases2 l ds' e1 with ⟨hl, e3⟩ | ⟨e3, _⟩
    · have e2 : (if l = h.length then p else μ l) = a := e2
      rw [if_neg (Nat.ne_of_lt hl)] at e2
      exact .inl ⟨l, ds', e3, e2⟩
    · have e2 : (if l = h.length then p else μ l) = a := e2
      rw [if_pos e3] at e2
      exact .inr (by rw [← e2]; exact hp)
  refine ⟨st, fun l ds' e => ?_, fun l l' d1 d2 e1 e2 e3 => ?_, R.tab.ext fun b u e => (by rw [upd_ne (ne_of_none e hp)]; exact e), fun a z => ⟨?_, fun y => ?_⟩⟩
  · rcases cases2 l ds' e with ⟨hl, e3⟩ | ⟨e3, e4⟩
    · obtain ⟨vs', e5, e6⟩ := R.obj l ds' e3
      exact ⟨vs', by show upd H p (.lst vs) (if l = h.length then p else μ l) = _; rw [if_neg (Nat.ne_of_lt hl), upd_ne (ne_of_none e5 hp)]; exact e5, e6.step st⟩
    · subst e4
      exact ⟨vs, by show upd H p (.lst vs) (if l = h.length then p else μ l) = _; rw [if_pos e3, upd_same], rs.step st⟩
  · have e3 : (if l = h.length then p else μ l) = (if l' = h.length then p else μ l') := e3
    rcases cases2 l d1 e1 with ⟨hl, q1⟩ | ⟨q1, _⟩
    · obtain ⟨v1, z1, _⟩ := R.obj l d1 q1
      rcases cases2 l' d2 e2 with ⟨hl', q2⟩ | ⟨q2, _⟩
      · rw [if_neg (Nat.ne_of_lt hl), if_neg (Nat.ne_of_lt hl')] at e3
        exact R.inj l l' d1 d2 q1 q2 e3
      · rw [if_neg (Nat.ne_of_lt hl), if_pos q2] at e3
        rw [e3, hp] at z1; cases z1
    · rcases cases2 l' d2 e2 with ⟨hl', q2⟩ | ⟨q2, _⟩
      · obtain ⟨v1, z1, _⟩ := R.obj l' d2 q2
        rw [if_pos q1, if_neg (Nat.ne_of_lt hl')] at e3
        rw [← e3, hp] at z1; cases z1
      · rw [q1, q2]
  · obtain ⟨o, e⟩ := (R.hid a z).1
    exact st.there a o e
  · rcases st.liv a y with y | y
    · exact (R.hid a z).2 y
    · obtain ⟨o, e⟩ := (R.hid a z).1
      rw [y] at e; cases e
theorem pd_new {es : List Expr} {xs : Exs} (h : PDA X T E C es xs) : PDE X T E C (.List es pos) (.new xs) :=
  (pe_lst h).imp fun σ H Q ⟨ρ, h, μ, en, R, g⟩ => ⟨ρ, h, μ, en, R, g.bind.mono fun ds h1 μ1 H1 s1 R1 g1 vs rs => by
    obtain ⟨hz, g2⟩ := g1.ite
    refine ⟨by rw [rs.length]; exact szOk_le hz, fun p hp => ?_⟩
    obtain ⟨st, R2⟩ := alloc_step (T := T) hp R1 rs
    have f := (Go.of_ok (m := fun h => Res.ok (D.mut h.length) (h ++ [some ds])) rfl).mp g2 _ _ st R2
    have r := RpD.mut (K := X.K) (w := X.w) (h := h1 ++ [some ds]) (μ := ⟨fun l => if l = h1.length then p else μ1 l, μ1.hid⟩) (H := upd H1 p (.lst vs)) (l := h1.length) (by rw [List.length_append, List.length_singleton]; exact Nat.lt_succ_self _)
    have e0 : (⟨fun l => if l = h1.length then p else μ1 l, μ1.hid⟩ : Mu) h1.length = p := if_pos rfl
    rw [e0] at r
    exact f _ r⟩

/-! ### operators -/
theorem bin_go {a b : Ex} {f : D → D → M D} {σ : L2.St} {H : Hp} {Q Q' : VK} {r : R2} (hr : ∀ h μ H x y dx dy, RpD X.K X.w h μ H x dx → RpD X.K X.w h μ H y dy → HRel X.K X.w T H h μ → Go X.K X.w T E h μ H (f dx dy) (fun d h' μ' H' => ∀ v, RpD X.K X.w h' μ' H' v d → Q v H') → r x y H Q')
    (hq : tGo X.K X.w T E (fun ρ => (den C a ρ).bind fun x => (den C b ρ).bind fun y => f x y) σ H Q) : tOp r (tD X.K X.w T E C a) (tD X.K X.w T E C b) σ H Q' := by
  obtain ⟨ρ, h, μ, en, R, g⟩ := hq
  exact ⟨ρ, h, μ, en, R, g.bind.mono fun x h1 μ1 H1 s1 R1 g1 v rv => ⟨ρ, h1, μ1, en.step s1, R1, g1.bind.mono fun y h2 μ2 H2 s2 R2 g2 v2 rv2 => hr h2 μ2 H2 v v2 x y (rv.step s2) rv2 R2 g2⟩⟩
theorem map_some {α β : Type} {o : Option α} {f : α → β} {b : β} (e : o.map f = some b) : ∃ a, o = some a ∧ f a = b := by
  cases o with
  | none => cases e
  | some a => exact ⟨a, rfl, Option.some.inj e⟩
theorem pd_bin {o : Bop} {a b : Expr} {x y : Ex} (ha : PDE X T E C a x) (hb : PDE X T E C b y) : PDE X T E C (.BinOp a (opOf o) b pos) (.bin o x y) :=
  (pe_op (op_bin (T := T) o) ha hb).imp fun σ H Q hq => bin_go (E := E) (f := fun x y => .rd fun h => (opBin o h x y).map .dat) (fun h μ H x y dx dy r1 r2 R g => by
    obtain ⟨d, e, f⟩ := Go.rd g
    obtain ⟨d', e', rfl⟩ := map_some e
    exact ⟨h, μ, dx, dy, d', r1, r2, R, e', f⟩) hq
theorem pd_cmp (hu : X.A.units + 64 < cLine) {o : Cop} {a b : Expr} {x y : Ex} (ha : PDE X T E C a x) (hb : PDE X T E C b y) (hm : behindInMarks (cmpOf o) b = false) : PDE X T E C (.Compare a [cmpOf o] [b] pos) (.cmp o x y) :=
  (pe_cmpR (op_cmp (T := T) hu o) ha hb hm).imp fun σ H Q hq => bin_go (E := E) (f := fun x y => .rd fun h => (opCmp o h x y).map fun b => .dat (.bool b)) (fun h μ H x y dx dy r1 r2 R g => by
    obtain ⟨d, e, f⟩ := Go.rd g
    obtain ⟨b, e', rfl⟩ := map_some e
    exact ⟨h, μ, dx, dy, b, r1, r2, R, e', f μ H .refl R _ (.dat (.bl b))⟩) hq
theorem tT_D {x : Ex} {σ : L2.St} {H : Hp} {Q : Bool → Hp → Prop} (h : tT X.K X.w T E C x σ H Q) : tD X.K X.w T E C x σ H fun v H' => ∃ k, TruV X.K v H' k ∧ Q k H' := by
  obtain ⟨ρ, h, μ, en, R, g⟩ := h
  exact ⟨ρ, h, μ, en, R, g.bind.mono fun d h1 μ1 H1 s1 R1 g1 v rv => by
    obtain ⟨b, e, f⟩ := Go.rd g1
    exact ⟨b, tru_rep R1 rv e, f μ1 H1 .refl R1⟩⟩
/-- an expression whose test is its value's truth -/
theorem pdt_of {e : Expr} {x : Ex} (h : PDE X T E C e x) (he : ∀ whole, isTrue e X.env whole = (do let v ← whole; standAt e.pos; holding [v] (truthy v))) : PDT X T E C e x :=
  (pt_truth h he).imp fun σ H Q hq => tT_D hq
theorem tru_bool {K : PySem.W.Frag} {v : V} {H : Hp} {Q : Bool → Hp → Prop} (h : ∃ k, TruV K v H k ∧ Q k H) (e : ∃ b, v = .bl b) : ∃ k, v = .bl k ∧ Q k H := by
  obtain ⟨b, rfl⟩ := e
  obtain ⟨k, e, q⟩ := h
  have e' : k = b := e
  subst e'
  exact ⟨k, rfl, q⟩
theorem pdt_cmp (hu : X.A.units + 64 < cLine) {o : Cop} {a b : Expr} {x y : Ex} (ha : PDE X T E C a x) (hb : PDE X T E C b y) (hm : behindInMarks (cmpOf o) b = false) : PDT X T E C (.Compare a [cmpOf o] [b] pos) (.cmp o x y) :=
  (pt_cmpR (op_cmp (T := T) hu o) ha hb hm).imp fun σ H Q hq => by
    exact bin_go (E := E) (Q' := fun v H' => ∃ k, v = .bl k ∧ Q k H') (f := fun x y => .rd fun h => (opCmp o h x y).map fun b => .dat (.bool b)) (fun h μ H x y dx dy r1 r2 R g => by
      obtain ⟨d, e, f⟩ := Go.rd g
      obtain ⟨b, e', rfl⟩ := map_some e
      exact ⟨h, μ, dx, dy, b, r1, r2, R, e', tru_bool (f μ H .refl R _ (.dat (.bl b))) ⟨b, rfl⟩⟩) (tT_D hq)

theorem pd_cmp2 (hu : X.A.units + 64 < cLine) {o o' : Cop} {a b c : Expr} {x y z : Ex} (ha : PDE X T E C a x) (hb : PDE X T E C b y) (hc : PDE X T E C c z) (hm : lastMarks [cmpOf o, cmpOf o'] [b, c] = false) :
    PDE X T E C (.Compare a [cmpOf o, cmpOf o'] [b, c] pos) (.cmp2 o o' x y z) :=
  (pe_chain (op_cmp (T := T) hu o) (op_cmp (T := T) hu o') ha hb hc hm).imp fun σ H Q ⟨ρ, h, μ, en, R, g⟩ => ⟨ρ, h, μ, en, R, g.bind.mono fun dx h1 μ1 H1 s1 R1 g1 v rv => ⟨ρ, h1, μ1, en.step s1, R1, g1.bind.mono fun dy h2 μ2 H2 s2 R2 g2 v2 rv2 => by
    obtain ⟨b1, e, f⟩ := Go.rd g2.bind
    refine ⟨h2, μ2, dx, dy, b1, rv.step s2, rv2, R2, e, b1, rfl, ?_⟩
    have f' := f μ2 H2 .refl R2
    cases b1 with
    | false =>
      rw [if_neg Bool.false_ne_true] at f' ⊢
      exact Go.ret' f' R2 _ (.dat (.bl false))
    | true =>
      rw [if_pos rfl] at f' ⊢
      exact ⟨ρ, h2, μ2, (en.step s1).step s2, R2, f'.bind.mono fun dz h3 μ3 H3 s3 R3 g3 v3 rv3 => by
        obtain ⟨d, e3, f3⟩ := Go.rd g3
        obtain ⟨b2, e4, rfl⟩ := map_some e3
        exact ⟨h3, μ3, dy, dz, b2, rv2.step s3, rv3, R3, e4, f3 μ3 H3 .refl R3 _ (.dat (.bl b2))⟩⟩⟩⟩
/-- a test's truth, for comparisons of two: by the value -/
theorem pdt_cmp2 (hu : X.A.units + 64 < cLine) {o o' : Cop} {a b c : Expr} {x y z : Ex} (ha : PDE X T E C a x) (hb : PDE X T E C b y) (hc : PDE X T E C c z) (hm : lastMarks [cmpOf o, cmpOf o'] [b, c] = false) :
    PDT X T E C (.Compare a [cmpOf o, cmpOf o'] [b, c] pos) (.cmp2 o o' x y z) :=
  (pt_chain (op_cmp (T := T) hu o) (op_cmp (T := T) hu o') ha hb hc hm).imp fun σ H Q hq => by
    obtain ⟨ρ, h, μ, en, R, g⟩ := tT_D hq
    exact ⟨ρ, h, μ, en, R, g.bind.mono fun dx h1 μ1 H1 s1 R1 g1 v rv => ⟨ρ, h1, μ1, en.step s1, R1, g1.bind.mono fun dy h2 μ2 H2 s2 R2 g2 v2 rv2 => by
      obtain ⟨b1, e, f⟩ := Go.rd g2.bind
      refine ⟨h2, μ2, dx, dy, b1, rv.step s2, rv2, R2, e, b1, rfl, ?_⟩
      have f' := f μ2 H2 .refl R2
      cases b1 with
      | false =>
        rw [if_neg Bool.false_ne_true] at f' ⊢
        exact tru_bool (Go.ret' f' R2 _ (.dat (.bl false))) ⟨_, rfl⟩
      | true =>
        rw [if_pos rfl] at f' ⊢
        exact ⟨ρ, h2, μ2, (en.step s1).step s2, R2, f'.bind.mono fun dz h3 μ3 H3 s3 R3 g3 v3 rv3 => by
          obtain ⟨d, e3, f3⟩ := Go.rd g3
          obtain ⟨b2, e4, rfl⟩ := map_some e3
          exact ⟨h3, μ3, dy, dz, b2, rv2.step s3, rv3, R3, e4, tru_bool (f3 μ3 H3 .refl R3 _ (.dat (.bl b2))) ⟨_, rfl⟩⟩⟩⟩⟩

/-! ### and, or, not, if else -/
theorem M.assoc {α β γ : Type} (m : M α) (f : α → M β) (g : β → M γ) : (m.bind f).bind g = m.bind fun x => (f x).bind g := by
  funext h
  unfold M.bind
  cases m h <;> rfl
def truM (x : D) : M Bool := .rd fun h => truD h x
theorem M.rd_some {α : Type} {f : Store → Option α} {h : Store} {a : α} (e : f h = some a) : M.rd f h = .ok a h := by unfold M.rd; rw [e]
theorem M.rd_none {α : Type} {f : Store → Option α} {h : Store} (e : f h = none) : M.rd f h = .no := by unfold M.rd; rw [e]
theorem M.bind_ok {α β : Type} {m : M α} {f : α → M β} {h h' : Store} {a : α} (e : m h = .ok a h') : m.bind f h = f a h' := by unfold M.bind; rw [e]
theorem M.bind_no {α β : Type} {m : M α} {f : α → M β} {h : Store} (e : m h = .no) : m.bind f h = .no := by unfold M.bind; rw [e]
theorem M.bind_err {α β : Type} {m : M α} {f : α → M β} {h h' : Store} {x : Err} (e : m h = .err x h') : m.bind f h = .err x h' := by unfold M.bind; rw [e]
theorem not_test (m : M D) : ((m.bind fun x => (M.rd fun h => truD h x).bind fun k => .ret (.dat (.bool (!k)))).bind fun y => .rd fun h => truD h y) = (m.bind fun x => .rd fun h => truD h x).bind fun k => .ret (!k) := by
  rw [M.assoc, M.assoc]
  congr 1
  funext x h
  cases e : truD h x with
  | none => simp only [M.bind, M.rd, e]
  | some k => simp only [M.bind, M.rd, M.ret, e]; rfl
theorem and_test (m n : M D) : ((m.bind fun x => (M.rd fun h => truD h x).bind fun k => if k = true then n else .ret x).bind fun y => .rd fun h => truD h y) = (m.bind fun x => .rd fun h => truD h x).bind fun k => if k = true then n.bind fun y => .rd fun h => truD h y else .ret false := by
  rw [M.assoc, M.assoc]
  congr 1
  funext x h
  cases e : truD h x with
  | none => simp only [M.bind, M.rd, e]
  | some k =>
    cases k with
    | true => simp only [M.bind, M.rd, e, if_true]
    | false => simp only [M.bind, M.rd, M.ret, e, Bool.false_eq_true, if_false]
theorem or_test (m n : M D) : ((m.bind fun x => (M.rd fun h => truD h x).bind fun k => if k = true then .ret x else n).bind fun y => .rd fun h => truD h y) = (m.bind fun x => .rd fun h => truD h x).bind fun k => if k = true then .ret true else n.bind fun y => .rd fun h => truD h y := by
  rw [M.assoc, M.assoc]
  congr 1
  funext x h
  cases e : truD h x with
  | none => simp only [M.bind, M.rd, e]
  | some k =>
    cases k with
    | true => simp only [M.bind, M.rd, M.ret, e, if_true]
    | false => simp only [M.bind, M.rd, e, Bool.false_eq_true, if_false]
theorem ite_test (m n p : M D) : ((m.bind fun x => (M.rd fun h => truD h x).bind fun k => if k = true then n else p).bind fun y => .rd fun h => truD h y) = (m.bind fun x => .rd fun h => truD h x).bind fun k => if k = true then n.bind fun y => .rd fun h => truD h y else p.bind fun y => .rd fun h => truD h y := by
  rw [M.assoc, M.assoc]
  congr 1
  funext x h
  cases e : truD h x with
  | none => simp only [M.bind, M.rd, e]
  | some k =>
    cases k with
    | true => simp only [M.bind, M.rd, e, if_true]
    | false => simp only [M.bind, M.rd, e, Bool.false_eq_true, if_false]
/-- first a test, then by its answer -/
theorem tT_then {K : PySem.W.Frag} {w : World} {σ : L2.St} {H : Hp} {ρ : Rho} {h : Store} {μ : Mu} {x : Ex} {α : Type} {f : Bool → M α} {Φ : α → Store → Mu → Hp → Prop} {Q : Bool → Hp → Prop} (en : EnvR K w h μ H σ ρ) (R : HRel K w T H h μ)
    (g : Go K w T E h μ H (((den C x ρ).bind fun x => .rd fun h => truD h x).bind f) Φ) (k : ∀ b h1 μ1 H1, EnvR K w h1 μ1 H1 σ ρ → HRel K w T H1 h1 μ1 → Go K w T E h1 μ1 H1 (f b) Φ → Q b H1) : tT K w T E C x σ H Q :=
  ⟨ρ, h, μ, en, R, g.bind.mono fun b h1 μ1 H1 s1 R1 g1 => k b h1 μ1 H1 (en.step s1) R1 g1⟩
variable {rest : List Expr}
theorem pd_and {a b : Expr} {x y : Ex} (ha : PDE X T E C a x) (hb : PDE X T E C (.BoolOp .And (b :: rest) pos) y) : PDE X T E C (.BoolOp .And (a :: b :: rest) pos) (.and x y) :=
  (pe_andT ha hb).imp fun σ H Q ⟨ρ, h, μ, en, R, g⟩ => ⟨ρ, h, μ, en, R, g.bind.mono fun d h1 μ1 H1 s1 R1 g1 v rv => by
    obtain ⟨k, e, f⟩ := Go.rd g1.bind
    refine ⟨k, tru_rep R1 rv e, ?_⟩
    have f' := f μ1 H1 .refl R1
    cases k with
    | true => rw [if_pos rfl] at f' ⊢; exact ⟨ρ, h1, μ1, en.step s1, R1, f'⟩
    | false => rw [if_neg Bool.false_ne_true] at f' ⊢; exact Go.ret' f' R1 _ rv⟩
theorem pd_or {a b : Expr} {x y : Ex} (ha : PDE X T E C a x) (hb : PDE X T E C (.BoolOp .Or (b :: rest) pos) y) : PDE X T E C (.BoolOp .Or (a :: b :: rest) pos) (.or x y) :=
  (pe_orT ha hb).imp fun σ H Q ⟨ρ, h, μ, en, R, g⟩ => ⟨ρ, h, μ, en, R, g.bind.mono fun d h1 μ1 H1 s1 R1 g1 v rv => by
    obtain ⟨k, e, f⟩ := Go.rd g1.bind
    refine ⟨k, tru_rep R1 rv e, ?_⟩
    have f' := f μ1 H1 .refl R1
    cases k with
    | false => rw [if_neg Bool.false_ne_true] at f' ⊢; exact ⟨ρ, h1, μ1, en.step s1, R1, f'⟩
    | true => rw [if_pos rfl] at f' ⊢; exact Go.ret' f' R1 _ rv⟩
theorem pdw_and {a b : Expr} {x y : Ex} (ha : PDT X T E C a x) (hb : PDW X T E C (.BoolOp .And (b :: rest) pos) y) : PDW X T E C (.BoolOp .And (a :: b :: rest) pos) (.and x y) :=
  ⟨fun wh pins s σ H Q I hq => (pw_and ha hb).run wh pins s σ H Q I (by
    obtain ⟨ρ, h, μ, en, R, g⟩ := hq
    have g' : Go X.K X.w T E h μ H (((den C x ρ).bind fun x => .rd fun h => truD h x).bind fun k => if k = true then (den C y ρ).bind fun y => .rd fun h => truD h y else .ret false) fun b h' μ' H' => Q b H' := by rw [← and_test]; exact g
    refine tT_then en R g' fun c h1 μ1 H1 en1 R1 g1 => ?_
    cases c with
    | true => rw [if_pos rfl] at g1 ⊢; exact ⟨ρ, h1, μ1, en1, R1, g1⟩
    | false => rw [if_neg Bool.false_ne_true] at g1 ⊢; exact Go.ret' g1 R1)⟩
theorem pdw_or {a b : Expr} {x y : Ex} (ha : PDT X T E C a x) (hb : PDW X T E C (.BoolOp .Or (b :: rest) pos) y) : PDW X T E C (.BoolOp .Or (a :: b :: rest) pos) (.or x y) :=
  ⟨fun wh pins s σ H Q I hq => (pw_or ha hb).run wh pins s σ H Q I (by
    obtain ⟨ρ, h, μ, en, R, g⟩ := hq
    have g' : Go X.K X.w T E h μ H (((den C x ρ).bind fun x => .rd fun h => truD h x).bind fun k => if k = true then .ret true else (den C y ρ).bind fun y => .rd fun h => truD h y) fun b h' μ' H' => Q b H' := by rw [← or_test]; exact g
    refine tT_then en R g' fun c h1 μ1 H1 en1 R1 g1 => ?_
    cases c with
    | false => rw [if_neg Bool.false_ne_true] at g1 ⊢; exact ⟨ρ, h1, μ1, en1, R1, g1⟩
    | true => rw [if_pos rfl] at g1 ⊢; exact Go.ret' g1 R1)⟩
theorem pd_not {a : Expr} {x : Ex} (ha : PDE X T E C a x) : PDE X T E C (.UnaryOp .Not a pos) (.not x) :=
  (pe_notT ha).imp fun σ H Q ⟨ρ, h, μ, en, R, g⟩ => ⟨ρ, h, μ, en, R, g.bind.mono fun d h1 μ1 H1 s1 R1 g1 v rv => by
    obtain ⟨k, e, f⟩ := Go.rd g1.bind
    exact ⟨k, tru_rep R1 rv e, Go.ret' (f μ1 H1 .refl R1) R1 _ (.dat (.bl _))⟩⟩
theorem pdt_not {a : Expr} {x : Ex} (ha : PDT X T E C a x) : PDT X T E C (.UnaryOp .Not a pos) (.not x) :=
  (pt_not ha).imp fun σ H Q hq => by
    obtain ⟨ρ, h, μ, en, R, g⟩ := hq
    have g' : Go X.K X.w T E h μ H (((den C x ρ).bind fun x => .rd fun h => truD h x).bind fun k => .ret (!k)) fun b h' μ' H' => Q b H' := by rw [← not_test]; exact g
    exact tT_then en R g' fun c h1 μ1 H1 en1 R1 g1 => Go.ret' g1 R1
theorem pt_ifExp {c a b : Expr} {tc ta tb : TT} (hc : PT X c tc) (ha : PT X a ta) (hb : PT X b tb) : PT X (.IfExp c a b pos) fun σ H Q => tc σ H fun k H1 => if k = true then ta σ H1 Q else tb σ H1 Q := by
  refine ⟨fun pins s σ H Q I hq => isTrue_IfExp (thn (hc.run pins s σ H _ I hq) fun k s1 ⟨H1, I1, q1⟩ => ?_)⟩
  cases k with
  | true => exact ha.run pins s1 σ H1 Q I1 q1
  | false => exact hb.run pins s1 σ H1 Q I1 q1
theorem pd_ite {c a b : Expr} {z x y : Ex} (hc : PDT X T E C c z) (ha : PDE X T E C a x) (hb : PDE X T E C b y) : PDE X T E C (.IfExp c a b pos) (.ite z x y) :=
  (pe_ifExp hc ha hb).imp fun σ H Q ⟨ρ, h, μ, en, R, g⟩ => by
    have g' : Go X.K X.w T E h μ H (((den C z ρ).bind fun x => .rd fun h => truD h x).bind fun k => if k = true then den C x ρ else den C y ρ) fun d h' μ' H' => ∀ v, RpD X.K X.w h' μ' H' v d → Q v H' := by rw [M.assoc]; exact g
    refine tT_then en R g' fun c h1 μ1 H1 en1 R1 g1 => ?_
    cases c with
    | true => rw [if_pos rfl] at g1 ⊢; exact ⟨ρ, h1, μ1, en1, R1, g1⟩
    | false => rw [if_neg Bool.false_ne_true] at g1 ⊢; exact ⟨ρ, h1, μ1, en1, R1, g1⟩
theorem pdt_ite {c a b : Expr} {z x y : Ex} (hc : PDT X T E C c z) (ha : PDT X T E C a x) (hb : PDT X T E C b y) : PDT X T E C (.IfExp c a b pos) (.ite z x y) :=
  (pt_ifExp hc ha hb).imp fun σ H Q ⟨ρ, h, μ, en, R, g⟩ => by
    have g' : Go X.K X.w T E h μ H (((den C z ρ).bind fun x => .rd fun h => truD h x).bind fun k => if k = true then (den C x ρ).bind fun y => .rd fun h => truD h y else (den C y ρ).bind fun y => .rd fun h => truD h y) fun b h' μ' H' => Q b H' := by rw [← ite_test]; exact g
    refine tT_then en R g' fun c h1 μ1 H1 en1 R1 g1 => ?_
    cases c with
    | true => rw [if_pos rfl] at g1 ⊢; exact ⟨ρ, h1, μ1, en1, R1, g1⟩
    | false => rw [if_neg Bool.false_ne_true] at g1 ⊢; exact ⟨ρ, h1, μ1, en1, R1, g1⟩

/-! ### -x, x[i], x[a:b] -/
theorem asInt_some {o : Option PyData} {i : Int} (e : asInt o = some i) : o = some (.int i) := by
  unfold asInt at e
  split at e
  · cases e; rfl
  · cases e
theorem pd_neg {a : Expr} {x : Ex} (ha : PDE X T E C a x) : PDE X T E C (.UnaryOp .USub a pos) (.neg x) :=
  (pe_un un_neg ha).imp fun σ H Q ⟨ρ, h, μ, en, R, g⟩ => ⟨ρ, h, μ, en, R, g.bind.mono fun d h1 μ1 H1 s1 R1 g1 v rv => by
    obtain ⟨r, e, f⟩ := Go.rd g1
    obtain ⟨i, e', rfl⟩ := map_some e
    exact ⟨i, (rd_rep R1 rv (asInt_some e')).int, f μ1 H1 .refl R1 _ (.dat (.int _))⟩⟩
theorem pd_ix {a b : Expr} {x y : Ex} (ha : PDE X T E C a x) (hb : PDE X T E C b y) (hs : PlainIx b) : PDE X T E C (.Subscript a b pos) (.ix x y) :=
  (pe_ix ix_seq ha hb hs).imp fun σ H Q hq => bin_go (E := E) (f := fun x y => .rd fun h => opIx h x y) (fun h μ H x y dx dy r1 r2 R g => by
    obtain ⟨d, e, f⟩ := Go.rd g
    exact ixD_seq ⟨h, μ, dx, dy, d, r1, r2, R, e, f μ H .refl R⟩) hq
theorem pdo_none : PO X none (tO X.K X.w T E C .none) := po_none.imp fun σ H Q ⟨ρ, h, μ, en, R, g⟩ => Go.ret' g R
theorem pdo_some {e : Expr} {x : Ex} (he : PDE X T E C e x) : PO X (some e) (tO X.K X.w T E C (.some x)) :=
  (po_some he).imp fun σ H Q ⟨ρ, h, μ, en, R, g⟩ => ⟨ρ, h, μ, en, R, g.bind.mono fun d h1 μ1 H1 s1 R1 g1 v rv => by
    obtain ⟨r, e, f⟩ := Go.rd g1
    obtain ⟨i, e', rfl⟩ := map_some e
    exact ⟨i, (rd_rep R1 rv (asInt_some e')).int, f μ1 H1 .refl R1⟩⟩
theorem pd_sl {e : Expr} {lo hi : Option Expr} {x : Ex} {l u : Ox} {p2 : Pos} (he : PDE X T E C e x) (hl : PO X lo (tO X.K X.w T E C l)) (hu : PO X hi (tO X.K X.w T E C u)) : PDE X T E C (.Subscript e (.Slice lo hi none p2) pos) (.sl x l u) :=
  (pe_slice sl_list he hl hu).imp fun σ H Q ⟨ρ, h, μ, en, R, g⟩ => ⟨ρ, h, μ, en, R, g.bind.mono fun d h1 μ1 H1 s1 R1 g1 v rv => ⟨ρ, h1, μ1, en.step s1, R1, g1.bind.mono fun lo h2 μ2 H2 s2 R2 g2 => ⟨ρ, h2, μ2, (en.step s1).step s2, R2, g2.bind.mono fun hi h3 μ3 H3 s3 R3 g3 => by
    obtain ⟨r, e, f⟩ := Go.rd g3
    obtain ⟨d', e', rfl⟩ := map_some e
    exact slD R3 ((rv.step s2).step s3) e' f⟩⟩⟩

/-! ### a list of the store is written -/
theorem write_step {K : PySem.W.Frag} {w : World} {h : Store} {μ : Mu} {H : Hp} {l : Nat} {ds ds' : List D} {vs : List V} (R : HRel K w T H h μ) (e : h[l]? = some (some ds)) (rs : RpDs K w h μ H vs ds') :
    Step h μ H (h.set l (some ds')) μ (upd H (μ l) (.lst vs)) ∧ HRel K w T (upd H (μ l) (.lst vs)) (h.set l (some ds')) μ := by
  have hl : l < h.length := (List.getElem?_eq_some_iff.mp e).1
  obtain ⟨ws, e0, _⟩ := R.obj l ds e
  have old : ∀ (l' : Nat) (d : List D), (h.set l (some ds'))[l']? = some (some d) → ∃ d', h[l']? = some (some d') ∧ (l' = l ∧ d = ds' ∨ l' ≠ l ∧ d = d') := fun l' d q => by
    by_cases z : l = l'
    · subst z
      rw [List.getElem?_set_self hl] at q
      cases q
      exact ⟨ds, e, .inl ⟨rfl, rfl⟩⟩
    · rw [List.getElem?_set_ne z] at q
      exact ⟨d, q, .inr ⟨fun y => z y.symm, rfl⟩⟩
  have st : Step h μ H (h.set l (some ds')) μ (upd H (μ l) (.lst vs)) := by
    refine ⟨⟨fun a u q nl _ => ?_, fun _ _ => rfl, by rw [List.length_set]; exact Nat.le_refl _, fun a z => ?_, fun a u q => ?_, fun _ z => .inl z⟩, fun _ z => z, fun a u _ nl q _ => ?_⟩
    · rw [upd_ne (fun z => nl (.inl ⟨l, ds, e, z.symm⟩))]; exact q
    · obtain ⟨l', d, q1, q2⟩ := z
      obtain ⟨d', q3, _⟩ := old l' d q1
      exact .inl ⟨l', d', q3, q2⟩
    · by_cases z : a = μ l
      · exact ⟨_, by rw [z, upd_same]⟩
      · exact ⟨u, by rw [upd_ne z]; exact q⟩
    · rw [upd_ne (fun z => nl ⟨l, ds, e, z.symm⟩)]; exact q
  refine ⟨st, fun l' d q => ?_, fun l1 l2 d1 d2 q1 q2 q3 => ?_, fun p hp => ?_, fun a z => ⟨(let ⟨o, e⟩ := (R.hid a z).1; st.there a o e), fun ⟨l', d, q1, q2⟩ => (R.hid a z).2 (let ⟨d', q3, _⟩ := old l' d q1; ⟨l', d', q3, q2⟩)⟩⟩
  · obtain ⟨d', q1, q2 | q2⟩ := old l' d q
    · obtain ⟨z1, z2⟩ := q2
      subst z1 z2
      exact ⟨vs, upd_same, rs.step st⟩
    · obtain ⟨z1, z2⟩ := q2
      subst z2
      obtain ⟨us, q4, q5⟩ := R.obj l' d q1
      exact ⟨us, by rw [upd_ne (fun z => z1 (R.inj l' l d ds q1 e z))]; exact q4, q5.step st⟩
  · obtain ⟨d1', z1, _⟩ := old l1 d1 q1
    obtain ⟨d2', z2, _⟩ := old l2 d2 q2
    exact R.inj l1 l2 d1' d2' z1 z2 q3
  · obtain ⟨ps, t1, t2, t3⟩ := R.tab p hp
    have nP : ∀ b u, H b = some u → (∀ xs, u ≠ .lst xs) → b ≠ μ l := fun b u q n z => by rw [z, e0] at q; exact n ws (Option.some.inj q).symm
    refine ⟨ps, by rw [upd_ne (nP _ _ t1 fun xs z => by cases z)]; exact t1, t2, fun pos cv hc => ?_⟩
    obtain ⟨c, c1, c2⟩ := t3 pos cv hc
    exact ⟨c, c1, by rw [upd_ne (nP _ _ c2 fun xs z => by cases z)]; exact c2⟩
theorem RpDs.append {K : PySem.W.Frag} {w : World} {h : Store} {μ : Mu} {H : Hp} {vs vs' : List V} {ds ds' : List D} (a : RpDs K w h μ H vs ds) (b : RpDs K w h μ H vs' ds') : RpDs K w h μ H (vs ++ vs') (ds ++ ds') := by
  induction a with
  | nil => exact b
  | cons r _ ih => exact .cons r ih
theorem RpDs.of {K : PySem.W.Frag} {w : World} {h : Store} {μ : Mu} {H : Hp} : ∀ {vs : List V} {ds : List PyData}, RpAll K (Lv h μ) H vs ds → RpDs K w h μ H vs (ds.map .dat)
  | _, _, .nil => .nil
  | _, _, .cons r rs => .cons (.dat r) (RpDs.of rs)
theorem mut_rep {K : PySem.W.Frag} {w : World} {h : Store} {μ : Mu} {H : Hp} {v : V} {l : Nat} (r : RpD K w h μ H v (.mut l)) : v = .ref (μ l) ∧ l < h.length := by
  cases r with
  | «mut» hl => exact ⟨rfl, hl⟩
theorem le_line {n : Nat} (e : n < 16777216) : n < sizeLine := by rw [sizeLine_eq]; exact e
theorem base_nb {o : Expr} {m : Str} {env : Env} (h : notBare o = true) : attributeBase o m env (eval o env) = eval o env := by
  unfold attributeBase
  split
  · rename_i id p q
    cases h
  · rfl
theorem Go.one {K : PySem.W.Frag} {w : World} {h : Store} {μ : Mu} {H : Hp} {α : Type} {m : M α} {Φ : α → Store → Mu → Hp → Prop} (g : Go K w T E h μ H m Φ) : Go K w T E h μ H (m.bind fun x => M.ret [x]) fun ds h' μ' H' => ∃ d, ds = [d] ∧ Φ d h' μ' H' := by
  cases q : m h with
  | ok a h' => exact (Go.of_ok (a := [a]) (h' := h') (by rw [M.bind_ok q]; rfl)).mpr fun μ' H' s r => ⟨a, rfl, (Go.of_ok q).mp g μ' H' s r⟩
  | err e' h' => exact (Go.of_err (M.bind_err q)).mpr ((Go.of_err q).mp g)
  | no => exact ((Go.of_no q).mp g).elim
theorem asMut_some {K : PySem.W.Frag} {w : World} {h : Store} {μ : Mu} {H : Hp} {v : V} {x : D} {l : Nat} (R : HRel K w T H h μ) (r : RpD K w h μ H v x) (e : asMut h x = some l) : v = .ref (μ l) ∧ l < h.length ∧ tyV K "list" v H := by
  cases r with
  | @«mut» l' hl =>
    obtain ⟨ds, e1, e2⟩ := map_some (show (lstAt h l').map (fun _ => l') = some l from e)
    subst e2
    obtain ⟨vs, e3, _⟩ := R.obj l' ds (lstAt_some e1)
    exact ⟨rfl, hl, .inl ⟨rfl, vs, .inl (.inl e3)⟩⟩
  | dat _ => cases e
  | ro _ _ => cases e
  | dic _ _ _ _ _ => cases e
  | st _ _ => cases e
theorem pd_app {o e : Expr} {m : Str} {ap cp : Pos} {x y : Ex} (hm : m = ("append" : Str)) (ho : PDE X T E C o x) (he : PDE X T E C e y) (hb : notBare o = true) (hl : (ap.endLine == cp.line) = true) (hn : ∀ a b, e ≠ .Starred a b) : PDE X T E C (.Call (.Attribute o m ap) [e] [] cp) (.app x y) := by
  subst hm
  refine (pe_bm PySem.F.plainAttrs_list PySem.F.slot_list_append PySem.F.type_list_append mt_append ho (pda_cons he pda_nil hn) (base_nb hb) ?_ hl (starEach_ne hn) rfl).imp fun σ H Q ⟨ρ, h, μ, en, R, g⟩ => ⟨ρ, h, μ, en, R, g.bind.mono fun d h1 μ1 H1 s1 R1 g1 v rv => ?_⟩
  · rw [starEach_ne hn]; rfl
  obtain ⟨l, e1, f⟩ := Go.rd g1.bind
  obtain ⟨rfl, hl, ty⟩ := asMut_some (T := T) R1 rv e1
  refine ⟨ty, ρ, h1, μ1, en.step s1, R1, ?_⟩
  have f' := f μ1 H1 .refl R1
  have g2 : Go X.K X.w T E h1 μ1 H1 ((den C y ρ).bind fun x => (M.ret []).bind fun xs => M.ret (x :: xs)) fun ds h' μ' H' => ∃ d, ds = [d] ∧ Go X.K X.w T E h' μ' H' (fun h => match lstAt h l with
      | some ds => if ds.length < 16777216 then Res.ok (D.dat .none) (h.set l (some (ds ++ [d]))) else .no
      | none => .no) fun d h' μ' H' => ∀ v, RpD X.K X.w h' μ' H' v d → Q v H' := by
    have e3 : ((den C y ρ).bind fun x => (M.ret ([] : List D)).bind fun xs => M.ret (x :: xs)) = (den C y ρ).bind fun x => M.ret [x] := rfl
    rw [e3]
    have f2 := f'.bind
    exact Go.one f2
  refine g2.mono fun ds h2 μ2 H2 s2 R2 g3 vs rs => ?_
  obtain ⟨d, rfl, g4⟩ := g3
  cases rs with
  | cons rd rs =>
    cases rs
    cases q : lstAt h2 l with
    | none => exact ((Go.of_no (by show (match lstAt h2 l with | some ds => _ | none => _) = _; rw [q])).mp g4).elim
    | some ds =>
      have q' := lstAt_some q
      obtain ⟨ws, e4, rw'⟩ := R2.obj l ds q'
      by_cases hz : ds.length < 16777216
      · have g5 := (Go.of_ok (a := D.dat .none) (h' := h2.set l (some (ds ++ [d]))) (by show (match lstAt h2 l with | some ds => _ | none => _) = _; rw [q]; exact if_pos hz)).mp g4
        obtain ⟨st, R3⟩ := write_step (T := T) R2 q' (rw'.append (.cons rd .nil))
        have em : μ1 l = μ2 l := (s2.mu l hl).symm
        rw [em]
        exact ⟨_, _, _, rfl, rfl, e4, by rw [rw'.length]; exact le_line hz, g5 _ _ st R3 _ (.dat .non)⟩
      · exact ((Go.of_no (by show (match lstAt h2 l with | some ds => _ | none => _) = _; rw [q]; exact if_neg hz)).mp g4).elim
theorem pd_ext {o e : Expr} {m : Str} {ap cp : Pos} {x y : Ex} (hm : m = ("extend" : Str)) (ho : PDE X T E C o x) (he : PDE X T E C e y) (hb : notBare o = true) (hl : (ap.endLine == cp.line) = true) (hn : ∀ a b, e ≠ .Starred a b) : PDE X T E C (.Call (.Attribute o m ap) [e] [] cp) (.ext x y) := by
  subst hm
  refine (pe_bm PySem.F.plainAttrs_list PySem.F.slot_list_extend PySem.F.type_list_extend mt_extend ho (pda_cons he pda_nil hn) (base_nb hb) ?_ hl (starEach_ne hn) rfl).imp fun σ H Q ⟨ρ, h, μ, en, R, g⟩ => ⟨ρ, h, μ, en, R, g.bind.mono fun d h1 μ1 H1 s1 R1 g1 v rv => ?_⟩
  · rw [starEach_ne hn]; rfl
  obtain ⟨l, e1, f⟩ := Go.rd g1.bind
  obtain ⟨rfl, hl, ty⟩ := asMut_some (T := T) R1 rv e1
  refine ⟨ty, ρ, h1, μ1, en.step s1, R1, ?_⟩
  have f' := f μ1 H1 .refl R1
  have g2 : Go X.K X.w T E h1 μ1 H1 ((den C y ρ).bind fun x => (M.ret []).bind fun xs => M.ret (x :: xs)) fun ds h' μ' H' => ∃ d, ds = [d] ∧ Go X.K X.w T E h' μ' H' (fun h => match lstAt h l, d with
      | some ds, .dat (.list ys) => if ds.length + ys.length ≤ 16777216 then Res.ok (D.dat .none) (h.set l (some (ds ++ ys.map .dat))) else .no
      | _, _ => .no) fun d h' μ' H' => ∀ v, RpD X.K X.w h' μ' H' v d → Q v H' := by
    have e3 : ((den C y ρ).bind fun x => (M.ret ([] : List D)).bind fun xs => M.ret (x :: xs)) = (den C y ρ).bind fun x => M.ret [x] := rfl
    rw [e3]
    have f2 := f'.bind
    exact Go.one f2
  refine g2.mono fun ds h2 μ2 H2 s2 R2 g3 vs rs => ?_
  obtain ⟨d, rfl, g4⟩ := g3
  cases rs with
  | cons rd rs =>
    cases rs
    unfold Go at g4
    cases q : lstAt h2 l with
    | none => simp only [q] at g4; exact (show False from g4).elim
    | some ds =>
      simp only [q] at g4
      have q' := lstAt_some q
      obtain ⟨ws, e4, rw'⟩ := R2.obj l ds q'
      cases rd with
      | dat rd =>
        cases rd with
        | lst e5 nl rys =>
          rename_i a' us ys
          simp only at g4
          split at g4
          · rename_i hz
            obtain ⟨st, R3⟩ := write_step (T := T) R2 q' (rw'.append (RpDs.of rys))
            have g5 : ∀ μ' H', Step h2 μ2 H2 (h2.set l (some (ds ++ ys.map .dat))) μ' H' → HRel X.K X.w T H' (h2.set l (some (ds ++ ys.map .dat))) μ' → ∀ v, RpD X.K X.w (h2.set l (some (ds ++ ys.map .dat))) μ' H' v (.dat .none) → Q v H' := g4
            have em : μ1 l = μ2 l := (s2.mu l hl).symm
            rw [em]
            exact ⟨_, _, _, _, rfl, rfl, e4, e5, by rw [rw'.length, rys.length, sizeLine_eq]; exact hz, g5 _ _ st R3 _ (.dat .non)⟩
          · exact (show False from g4).elim
        | _ => exact (show False from g4).elim
      | _ => exact (show False from g4).elim
end
end DL
end
section
set_option Elab.async false
set_option linter.all false
set_option autoImplicit false
set_option maxRecDepth 100000
/-! The data layer, part g: built-ins by values. -/
namespace DL
open PySem PySem.Spec PyProof.Rows L2
def rBi (K : PySem.W.Frag) (w : World) (T : List (Addr × Str)) (b : Bi) : List V → Hp → VK → Prop := fun vs H Q => ∃ h μ ds d, RpDs K w h μ H vs ds ∧ HRel K w T H h μ ∧ opBi b h ds = some d ∧ Fin K w T h μ H d Q
section
variable {X : Cx} {T : List (Addr × Str)}
theorem one_rep {K : PySem.W.Frag} {w : World} {h : Store} {μ : Mu} {H : Hp} {vs : List V} {d : D} (r : RpDs K w h μ H vs [d]) : ∃ v, vs = [v] ∧ RpD K w h μ H v d := by
  cases r with
  | cons r rs => cases rs; exact ⟨_, rfl, r⟩
theorem bi_len : CallR X (.builtin "len") (rBi X.K X.w T .len) := by
  intro pins s σ H xs us Q I r hq
  obtain ⟨h, μ, ds, d, rs, R, e, f⟩ := hq
  unfold opBi at e
  split at e <;> first | (rename_i q; cases q; done) | (cases e; done) | skip
  · rename_i x _ _
    obtain ⟨v, rfl, rv⟩ := one_rep rs
    split at e
    · rename_i z
      cases e
      cases rv with | dat rv => cases rv; exact call_len pins s σ H _ us Q I r ⟨_, _, rfl, ⟨szOk_le z, rfl⟩, f.here R (.dat (.int _))⟩
    · cases e
  · cases e
    obtain ⟨v, rfl, rv⟩ := one_rep rs
    cases rv with | dat rv => cases rv with | lst e1 _ rr => exact call_len_seq pins s σ H _ us Q I r ⟨_, _, rfl, .inl (.inl (.inl e1)), by rw [rr.length]; exact f.here R (.dat (.int _))⟩
  · cases e
    obtain ⟨v, rfl, rv⟩ := one_rep rs
    cases rv with | dat rv => cases rv with | tup e1 rr => exact call_len_seq pins s σ H _ us Q I r ⟨_, _, rfl, .inr e1.sq, by rw [rr.length]; exact f.here R (.dat (.int _))⟩
  · cases e
    obtain ⟨v, rfl, rv⟩ := one_rep rs
    cases rv with | ro e1 rr => exact call_len_seq pins s σ H _ us Q I r ⟨_, _, rfl, .inl e1.sq, by rw [rr.length]; exact f.here R (.dat (.int _))⟩
  · obtain ⟨v, rfl, rv⟩ := one_rep rs
    obtain ⟨ds, e1, e2⟩ := map_some e
    subst e2
    obtain ⟨rfl, hl⟩ := mut_rep rv
    obtain ⟨ws, e3, rw'⟩ := R.obj _ ds (lstAt_some e1)
    exact call_len_seq pins s σ H _ us Q I r ⟨_, _, rfl, .inl (.inl (.inl e3)), by rw [rw'.length]; exact f.here R (.dat (.int _))⟩
theorem bi_abs : CallR X (.builtin "abs") (rBi X.K X.w T .abs) := by
  intro pins s σ H xs us Q I r hq
  obtain ⟨h, μ, ds, d, rs, R, e, f⟩ := hq
  unfold opBi at e
  split at e <;> first | (rename_i q; cases q; done) | (cases e; done) | skip
  cases e
  obtain ⟨v, rfl, rv⟩ := one_rep rs
  cases rv with | dat rv => cases rv; exact call_abs pins s σ H _ us Q I r ⟨_, rfl, f.here R (.dat (.int _))⟩
theorem bi_int : CallR X (.type "int") (rBi X.K X.w T .int) := by
  intro pins s σ H xs us Q I r hq
  obtain ⟨h, μ, ds, d, rs, R, e, f⟩ := hq
  unfold opBi at e
  split at e <;> first | (rename_i q; cases q; done) | (cases e; done) | skip
  cases e
  obtain ⟨v, rfl, rv⟩ := one_rep rs
  cases rv with | dat rv => cases rv; exact call_int1 pins s σ H _ us Q I r (.inl ⟨_, rfl, f.here R (.dat (.int _))⟩)
theorem bi_tuple : CallR X (.type "tuple") (rBi X.K X.w T .tuple) := by
  intro pins s σ H xs us Q I r hq
  obtain ⟨h, μ, ds, d, rs, R, e, f⟩ := hq
  unfold opBi at e
  split at e <;> first | (rename_i q; cases q; done) | (cases e; done) | skip
  obtain ⟨v, rfl, rv⟩ := one_rep rs
  split at e
  · rename_i xs e1
    cases e
    obtain ⟨a, ys, rfl, sq, rr⟩ := (rd_rep R rv e1).list
    exact call_tuple_of pins s σ H _ us Q I r ⟨a, ys, rfl, .inl ⟨sq, fun p hp => f.new R hp (new_tup hp R rr)⟩⟩
  · rename_i xs e1
    cases e
    obtain ⟨a, ys, rfl, sq, rr⟩ := (rd_rep R rv e1).tup
    exact call_tuple_of pins s σ H _ us Q I r ⟨a, ys, rfl, .inr ⟨sq.sq, f.here R (.dat (.tup sq rr))⟩⟩
  · cases e
theorem bi_list : CallR X (.type "list") (rBi X.K X.w T .list) := by
  intro pins s σ H xs us Q I r hq
  obtain ⟨h, μ, ds, d, rs, R, e, f⟩ := hq
  unfold opBi at e
  split at e <;> first | (rename_i q; cases q; done) | (cases e; done) | skip
  obtain ⟨v, rfl, rv⟩ := one_rep rs
  split at e
  · rename_i xs e1
    cases e
    obtain ⟨a, ys, rfl, sq, rr⟩ := (rd_rep R rv e1).list
    exact call_list_of pins s σ H _ us Q I r ⟨a, ys, rfl, .inl sq, fun p hp => f.new R hp (new_lst hp R rr)⟩
  · rename_i xs e1
    cases e
    obtain ⟨a, ys, rfl, sq, rr⟩ := (rd_rep R rv e1).tup
    exact call_list_of pins s σ H _ us Q I r ⟨a, ys, rfl, .inr sq.sq, fun p hp => f.new R hp (new_lst hp R rr)⟩
  · cases e
theorem bools_rep {K : PySem.W.Frag} {L : Addr → Prop} {H : Hp} : ∀ {vs : List V} {ds : List PyData} {bs : List Bool}, RpAll K L H vs ds → boolsOf ds = some bs → vs = bs.map V.bl
  | _, _, _, .nil, e => by cases e; rfl
  | _, _, _, .cons (d := d) r rs, e => by
    cases r with
    | bl b =>
      obtain ⟨bs', e1, e2⟩ := map_some (show (boolsOf _).map (b :: ·) = some _ from e)
      subst e2
      rw [bools_rep rs e1]; rfl
    | _ => cases e
theorem bi_all (hc : X.calm = true) : CallR X (.builtin "all") (rBi X.K X.w T .all) := by
  intro pins s σ H xs us Q I r hq
  obtain ⟨h, μ, ds, d, rs, R, e, f⟩ := hq
  unfold opBi at e
  split at e <;> first | (rename_i q; cases q; done) | (cases e; done) | skip
  obtain ⟨v, rfl, rv⟩ := one_rep rs
  obtain ⟨bs, e1, rfl⟩ := map_some e
  cases rv with | dat rv => cases rv with | lst e2 _ rr =>
    rw [bools_rep rr e1] at e2
    exact cr_all hc pins s σ H _ us Q I r ⟨_, bs, rfl, .inl (.inl e2), f.here R (.dat (.bl _))⟩
theorem bi_any (hc : X.calm = true) : CallR X (.builtin "any") (rBi X.K X.w T .any) := by
  intro pins s σ H xs us Q I r hq
  obtain ⟨h, μ, ds, d, rs, R, e, f⟩ := hq
  unfold opBi at e
  split at e <;> first | (rename_i q; cases q; done) | (cases e; done) | skip
  obtain ⟨v, rfl, rv⟩ := one_rep rs
  obtain ⟨bs, e1, rfl⟩ := map_some e
  cases rv with | dat rv => cases rv with | lst e2 _ rr =>
    rw [bools_rep rr e1] at e2
    exact cr_any hc pins s σ H _ us Q I r ⟨_, bs, rfl, .inl (.inl e2), f.here R (.dat (.bl _))⟩
theorem bi_repr (hu : X.A.units + 70 < cLine) (hg : X.A.guards = some []) : CallR X (.builtin "repr") (rBi X.K X.w T .repr) := by
  intro pins s σ H xs us Q I r hq
  obtain ⟨h, μ, ds, d, rs, R, e, f⟩ := hq
  unfold opBi at e
  split at e <;> first | (rename_i q; cases q; done) | (cases e; done) | skip
  obtain ⟨v, rfl, rv⟩ := one_rep rs
  cases q : rdD h _ with
  | none => rw [q] at e; cases e
  | some z =>
    rw [q] at e
    have e' : (if (z.showable && szOk z.shown.length && decide (z.depth ≤ 64) && !z.hasDict) = true then some (D.dat (.str z.shown)) else none) = some d := e
    split at e'
    · rename_i hz
      cases e'
      simp only [Bool.and_eq_true, decide_eq_true_eq, Bool.not_eq_true'] at hz
      obtain ⟨⟨⟨h1, h2⟩, h3⟩, h4⟩ := hz
      obtain ⟨u, rfl, ru⟩ := vals1 r
      obtain ⟨as, rd⟩ := Dp.reads I z v u (rd_rep R rv q).dp ru
      have fin : ∀ h' tk u', (∀ b o, s.heap.get? b = some o → h'.get? b = some o) → EP X pins σ Q (.str z.shown u') { s with heap := h', toks := tk } := fun h' tk u' k => ⟨.str z.shown, H, I.kept k, ⟨_, rfl⟩, f.here R (.dat (.str _))⟩
      have hs := szOk_le h2
      cases rd with
      | none => exact PySem.P.repr_of_none (fin _ _ _ fun _ _ e => e)
      | bool b => exact PySem.P.repr_of_bool (by cases b <;> exact fin _ _ _ fun _ _ e => e)
      | int i t => exact PySem.P.repr_of_int (of_decide_eq_true h1) (fin _ _ _ fun _ _ e => e)
      | str x t => exact PySem.P.repr_of_str (fin _ _ _ fun _ _ e => e) hs
      | list e1 e2 e3 e4 => exact repr_of_reads' (.list e1 e2 e3 e4) h1 (fun q => by rw [h4] at q; cases q) hg (by omega) (fun _ _ e => e) (fun h' u tk k => fin h' tk u k) hs
      | tuple e1 e2 e3 e4 => exact repr_of_reads' (.tuple e1 e2 e3 e4) h1 (fun q => by rw [h4] at q; cases q) hg (by omega) (fun _ _ e => e) (fun h' u tk k => fin h' tk u k) hs
      | dict e1 e2 e3 e4 e5 => exact absurd h4 (by simp [PyData.hasDict])
    · cases e'
end
end DL
end
section
set_option Elab.async false
set_option linter.all false
set_option autoImplicit false
set_option maxRecDepth 100000
/-! The data layer, part h: sum(lists, []). -/
namespace DL
open PySem PySem.Spec PyProof.Rows L2
section
variable {prog : Program} {w : World} {A : Around}
abbrev lO (its : List Value) (n : Nat) : Obj := { cls := .type "list", data := .seq its.toArray n }
theorem args_sum2 (a b : Value) : argsOk "sum" ⟨[a, b], []⟩ := by unfold argsOk; kernel_rfl
/-- each item is a list's reference -/
def AreLists (h : Heap) : List Value → List (List Value) → Prop
  | [], [] => True
  | .ref b :: r, its :: rs => (∃ n, h.get? b = some (lO its n)) ∧ AreLists h r rs
  | _, _ => False
theorem AreLists.keeps {h h' : Heap} (k : ∀ b o, h.get? b = some o → h'.get? b = some o) : ∀ {vs : List Value} {ls : List (List Value)}, AreLists h vs ls → AreLists h' vs ls
  | [], [], _ => True.intro
  | .ref b :: r, its :: rs, ⟨⟨n, e⟩, t⟩ => ⟨⟨n, k b _ e⟩, AreLists.keeps k t⟩
  | [], _ :: _, h => h.elim
  | .ref _ :: _, [], h => h.elim
theorem AreLists.get {h : Heap} : ∀ {vs : List Value} {ls : List (List Value)} {i : Nat} {its : List Value}, AreLists h vs ls → ls[i]? = some its → ∃ b n, vs[i]? = some (.ref b) ∧ h.get? b = some (lO its n)
  | [], [], i, its, _, e => by simp at e
  | .ref b :: r, l :: rs, 0, its, ⟨⟨n, q⟩, t⟩, e => by
    have e' : l = its := Option.some.inj e
    subst e'
    exact ⟨b, n, rfl, q⟩
  | .ref b :: r, l :: rs, i + 1, its, ⟨_, t⟩, e => AreLists.get (i := i) t (by simpa using e)
  | [], _ :: _, _, _, h, _ => h.elim
  | .ref _ :: _, [], _, _, h, _ => h.elim
theorem AreLists.length {h : Heap} : ∀ {vs : List Value} {ls : List (List Value)}, AreLists h vs ls → vs.length = ls.length
  | [], [], _ => rfl
  | .ref b :: r, l :: rs, ⟨_, t⟩ => by rw [List.length_cons, List.length_cons, AreLists.length t]
  | [], _ :: _, h => h.elim
  | .ref _ :: _, [], h => h.elim
theorem sum_loop2 {R : Result → Shared → Prop} {I S a z : Addr} {vs : List Value} {ls : List (List Value)} {h₀ : Heap} (hh : A.handled = none) (hl : h₀.IsList a vs.toArray) (al : AreLists h₀ vs ls) (hI : h₀.get? I = none) (hS0 : h₀.get? S = none) (hIS : I ≠ S) :
    ∀ (k i : Nat) (s : Shared) (t : Addr) (n c : Nat), ls.length - i = k → i ≤ ls.length → (∀ b o, h₀.get? b = some o → s.heap.get? b = some o) → s.heap.IsListIter I a i → s.heap.get? t = some (lO (ls.take i).flatten n) → ((ls.take i).flatten.length + (ls.drop i).flatten.length ≤ sizeLine) →
      t ≠ I → t ≠ S → (t = z ∧ i = 0) ∨ h₀.objs.size ≤ t → h₀.objs.size ≤ s.heap.objs.size → s.heap.get? S = some { cls := .type "list", dict := none, data := .seq #[.ref t] c, slots := #[] } → (∀ h' t n, (∀ b o, h₀.get? b = some o → h'.get? b = some o) → (t = z ∧ ls.length = 0) ∨ h₀.objs.size ≤ t → h'.get? t = some (lO ls.flatten n) → R (.ok (.ret (.ref t))) { s with heap := h' }) →
      codeAny (model prog w) A (.builtin "sum.loop" ⟨[.ref I, .ref S, rawInt 2, rawInt 0], []⟩) R s := by
  intro k
  induction k with
  | zero =>
    intro i s t n c hk hi keep hit ht hz htI htS tz sz hS hR
    have hin : i = ls.length := by omega
    subst hin
    refine codeAny_builtin F.entry_sum_loop ?_
    rw [Around.under_plainId F.plain_sum_loop _]
    show wpAny _ A.in1 (seqItems? (.ref S) >>= _) _ _ s
    refine wpAny_bind (wpAny_seqItems hS rfl ?_)
    show wpAny _ A.in1 (tryCatch (pyNext (.ref I)) _ >>= _) _ _ s
    have hl' : s.heap.IsList a vs.toArray := let ⟨o, e, r⟩ := hl; ⟨o, keep _ _ e, r⟩
    refine wpAny_bind (wpAny_tryCatch (wpAny_pyNext_list_end (A := A.in1) hh hit hl' (by have := al.length; simp; omega) fun h' eb => ?_))
    refine wpAny_pure (hR h' t n (fun b o e => ?_) tz ?_)
    · have nb : b ≠ I := fun z => by rw [z, hI] at e; cases e
      exact eb b o nb (keep b o e)
    · rw [List.take_length] at ht
      exact eb t _ htI ht
  | succ k ih =>
    intro i s t n c hk hi keep hit ht hz htI htS tz sz hS hR
    have hlt : i < ls.length := by omega
    obtain ⟨b, m, hb, ho⟩ := al.get (List.getElem?_eq_getElem hlt)
    refine codeAny_builtin F.entry_sum_loop ?_
    rw [Around.under_plainId F.plain_sum_loop _]
    show wpAny _ A.in1 (seqItems? (.ref S) >>= _) _ _ s
    refine wpAny_bind (wpAny_seqItems hS rfl ?_)
    show wpAny _ A.in1 (tryCatch (pyNext (.ref I)) _ >>= _) _ _ s
    have hl' : s.heap.IsList a vs.toArray := let ⟨o, e, r⟩ := hl; ⟨o, keep _ _ e, r⟩
    refine wpAny_bind (wpAny_tryCatch (wpAny_pyNext_list_item (x := .ref b) hit hl' (by simpa using hb) fun h1 hit1 sb => ?_))
    show wpAny _ A.in1 ((holding [Value.ref b] (binaryOp .Add (.ref t) (.ref b))).attempt >>= _) _ _ _
    have nI : ∀ c o, h₀.get? c = some o → c ≠ I := fun c o e z => by rw [z, hI] at e; cases e
    have nS : ∀ c o, h₀.get? c = some o → c ≠ S := fun c o e z => by rw [z, hS0] at e; cases e
    have ht1 : h1.get? t = some (lO (ls.take i).flatten n) := (sb.2 t htI).trans ht
    have hb1 : h1.get? b = some (lO ls[i] m) := (sb.2 b (nI _ _ ho)).trans (keep _ _ ho)
    have hS1 : h1.get? S = some { cls := .type "list", dict := none, data := .seq #[.ref t] c, slots := #[] } := (sb.2 S (Ne.symm hIS)).trans hS
    have hd : (ls.drop i).flatten = ls[i] ++ (ls.drop (i + 1)).flatten := by
      rw [List.drop_eq_getElem_cons hlt, List.flatten_cons]
    have ht' : (ls.take (i + 1)).flatten = (ls.take i).flatten ++ ls[i] := by
      rw [List.take_add_one, List.getElem?_eq_getElem hlt, List.flatten_append]; simp
    rw [hd, List.length_append] at hz
    refine wpAny_bind (wpAny_attempt (wpAny_holding (PySem.P.add_list (s := { s with heap := h1 }) ht1 hb1 ?_ (by rw [List.size_toArray, List.size_toArray]; omega))))
    have hp : (h1.push { cls := .type "list", data := .seq ((ls.take i).flatten.toArray ++ ls[i].toArray) }).get? h1.objs.size = some (lO (ls.take (i + 1)).flatten 0) := by
      rw [ht', show (ls.take i).flatten.toArray ++ ls[i].toArray = ((ls.take i).flatten ++ ls[i]).toArray by simp]
      exact Heap.get?_push_size _ rfl
    generalize hh2 : h1.push { cls := .type "list", data := .seq ((ls.take i).flatten.toArray ++ ls[i].toArray) } = h2 at hp
    have k2 : ∀ c o, h1.get? c = some o → h2.get? c = some o := fun c o e => by rw [← hh2]; exact Heap.get?_push_of_some _ e
    have hS2 := k2 _ _ hS1
    show wpAny _ A.in1 (updateSeq S (fun _ => #[.ref h1.objs.size]) >>= _) _ _ { s with heap := h2 }
    refine wpAny_bind (wpAny_updateSeq hS2 rfl ?_)
    have hS3 := Heap.get?_update_self (Obj.mapSeq fun _ => #[Value.ref h1.objs.size]) hS2 rfl
    refine wpAny_bind (wpAny_letGo ?_)
    have pS : h1.objs.size ≠ S := Nat.ne_of_gt (Heap.lt_size hS1)
    have pI : h1.objs.size ≠ I := fun z => by
      obtain ⟨o, e, _⟩ := hit1
      exact absurd (Heap.lt_size e) (by rw [z]; exact Nat.lt_irrefl _)
    have pN : h₀.objs.size ≤ h1.objs.size := by rw [sb.1]; exact sz
    have sz2 : h₀.objs.size ≤ h2.objs.size := by rw [← hh2, Heap.size_push]; omega
    refine wpAny_bind (wpAny_updateSeq hS3 rfl (wpAny_pure ⟨plainId_quiet F.plain_sum_loop _, ih (i + 1) _ h1.objs.size 0 _ (by omega) hlt (fun c o e => ?_) ?_ ?_ (by rw [ht', List.length_append]; omega) pI pS (.inr pN) (by rw [Heap.size_update, Heap.size_update]; exact sz2) (Heap.get?_update_self _ hS3 rfl) fun h' t n k' o' e' => hR h' t n k' o' e'⟩))
    · have n1 := nS c o e
      exact (Heap.get?_update_other _ _ (Ne.symm n1)).trans ((Heap.get?_update_other _ _ (Ne.symm n1)).trans (k2 c o ((sb.2 c (nI c o e)).trans (keep c o e))))
    · obtain ⟨o, e, c1, c2⟩ := hit1
      exact ⟨o, (Heap.get?_update_other _ _ (Ne.symm hIS)).trans ((Heap.get?_update_other _ _ (Ne.symm hIS)).trans (k2 _ _ e)), c1, c2⟩
    · exact (Heap.get?_update_other _ _ (Ne.symm pS)).trans ((Heap.get?_update_other _ _ (Ne.symm pS)).trans hp)
theorem call_sum2 {E : Value → Shared → Prop} {s : Shared} {a z : Addr} {vs : List Value} {ls : List (List Value)} {n : Nat} {Q : Value → Shared → Prop} (hh : A.handled = none) (hl : s.heap.IsList a vs.toArray) (al : AreLists s.heap vs ls) (hz : s.heap.get? z = some (lO [] n)) (hsz : ls.flatten.length ≤ sizeLine)
    (h : ∀ h' t n, (∀ b o, s.heap.get? b = some o → h'.get? b = some o) → (t = z ∧ ls.length = 0) ∨ s.heap.objs.size ≤ t → h'.get? t = some (lO ls.flatten n) → Q (.ref t) { s with heap := h' }) : wpAny (model prog w) A (call (.builtin "sum") [.ref a, .ref z]) Q E s := by
  refine call_function_tree F.kind_sum F.plain_sum F.entry_sum (args_sum2 _ _) ?_
  unfold Builtin.«sum»
  simp only [List.length_cons, List.length_nil]
  rw [if_neg (by decide)]
  refine wpAny_bind (wpAny_of_eq (show Builtin.Builtins.bindParams "sum" ["start"] 0 ⟨[.ref z], []⟩ = pure [some (.ref z)] from rfl) ?_)
  refine wpAny_bind (wpAny_pyIter_list hl ?_)
  refine wpAny_bind (wpAny_pure ?_)
  have hz1 : (s.heap.push { cls := .type "list_iterator", data := .fields #[.ref a, .int 0 0] }).get? z = some (lO [] n) := Heap.get?_push_of_some _ hz
  have tz : Shared.TypeIs { s with heap := s.heap.push { cls := .type "list_iterator", data := .fields #[.ref a, .int 0 0] } } (.ref z) "list" := ⟨_, hz1, rfl⟩
  simp only [List.forIn_cons, List.forIn_nil]
  refine wpAny_bind (wpAny_bind (wpAny_bind (wpAny_isInstance (T := "list") (b := false) tz F.sub_list_str ?_)))
  simp only [Bool.false_eq_true, if_false]
  refine wpAny_pure (wpAny_bind (wpAny_bind (wpAny_isInstance (T := "list") (b := false) tz F.sub_list_bytes ?_)))
  simp only [Bool.false_eq_true, if_false]
  refine wpAny_pure (wpAny_bind (wpAny_bind (wpAny_isInstance (T := "list") (b := false) tz F.sub_list_bytearray ?_)))
  simp only [Bool.false_eq_true, if_false]
  refine wpAny_pure (wpAny_pure ?_)
  refine wpAny_bind (wpAny_newObj_type ?_)
  have hs1 : (s.heap.push { cls := .type "list_iterator", data := .fields #[.ref a, .int 0 0] }).objs.size = s.heap.objs.size + 1 := by rw [Heap.size_push]
  have zlt := Heap.lt_size hz
  refine wpAny_pure ⟨plainId_quiet F.plain_sum_loop _, sum_loop2 (z := z) (h₀ := s.heap) (I := s.heap.objs.size) (S := (s.heap.push { cls := .type "list_iterator", data := .fields #[.ref a, .int 0 0] }).objs.size) hh hl al (Heap.get?_none_of_le (Nat.le_refl _)) (Heap.get?_none_of_le (by rw [hs1]; exact Nat.le_succ _)) (by rw [hs1]; exact Nat.ne_of_lt (Nat.lt_succ_self _)) ls.length 0 _ z n 0 rfl (Nat.zero_le _)
    (fun b o e => Heap.get?_push_of_some _ (Heap.get?_push_of_some _ e)) ⟨_, Heap.get?_push_of_some _ (Heap.get?_push_size _ rfl), rfl, rfl⟩ (Heap.get?_push_of_some _ hz1) (by simpa using hsz) (Nat.ne_of_lt zlt) (by rw [hs1]; exact Nat.ne_of_lt (Nat.lt_succ_of_lt zlt)) (.inl ⟨rfl, rfl⟩) (by rw [Heap.size_push, Heap.size_push]; omega) (Heap.get?_push_size _ rfl) fun h' t n k o e => h h' t n k o e⟩
end
section
variable {X : Cx} {T : List (Addr × Str)}
theorem lists_rep {pins : List (Addr × Obj)} {σ : L2.St} {H : Hp} {s : Shared} {L : Addr → Prop} (I : Inv X pins σ H s) : ∀ {vs : List V} {ds : List PyData} {ls : List (List PyData)} {us : List Value}, RpAll X.K L H vs ds → listsOf ds = some ls → Vals vs us →
    ∃ (ws : List (List V)) (its : List (List Value)), AreLists s.heap us its ∧ Vals ws.flatten its.flatten ∧ RpAll X.K L H ws.flatten ls.flatten
  | _, _, _, _, .nil, e, .nil => by cases e; exact ⟨[], [], True.intro, .nil, .nil⟩
  | _, _, _, _, .cons (d := d) r rs, e, .cons q qs => by
    cases r with
    | lst e1 _ rr =>
      obtain ⟨ls', e2, e3⟩ := map_some (show (listsOf _).map (_ :: ·) = some _ from e)
      subst e3
      obtain ⟨ws, its, a1, a2, a3⟩ := lists_rep I rs e2 qs
      cases q
      obtain ⟨it, n, r1, e4, _⟩ := I.lst e1
      exact ⟨_ :: ws, it :: its, ⟨⟨n, e4⟩, a1⟩, by rw [List.flatten_cons, List.flatten_cons]; exact r1.append a2, by rw [List.flatten_cons, List.flatten_cons]; exact rr.append a3⟩
    | _ => cases e
theorem listsOf_len : ∀ {ds : List PyData} {ls : List (List PyData)}, listsOf ds = some ls → ds.length = ls.length
  | [], _, e => by cases e; rfl
  | d :: r, _, e => by
    cases d with
    | list b =>
      obtain ⟨ls', e2, e3⟩ := map_some (show (listsOf r).map (b :: ·) = some _ from e)
      subst e3
      rw [List.length_cons, List.length_cons, listsOf_len e2]
    | _ => cases e
theorem flatten_len {α : Type} : ∀ ls : List (List α), ls.flatten.length = (ls.map (·.length)).sum
  | [] => rfl
  | l :: r => by rw [List.flatten_cons, List.length_append, flatten_len r, List.map_cons, List.sum_cons]
theorem bi_sum2 (hc : X.calm = true) : CallR X (.builtin "sum") (rBi X.K X.w T .sum2) := by
  intro pins s σ H vs us Q I r hq
  obtain ⟨h, μ, ds, d, rs, R, e, f⟩ := hq
  unfold opBi at e
  split at e <;> first | (rename_i q; cases q; done) | (cases e; done) | skip
  obtain ⟨ls, q, e'⟩ := Option.bind_eq_some_iff.mp e
  split at e'
  · rename_i hz
    cases e'
    cases rs with
    | cons r1 rs =>
      obtain ⟨v2, rfl, r2⟩ := one_rep rs
      obtain ⟨u1, u2, rfl, q1, q2⟩ := vals2 r
      cases r1 with | dat r1 => cases r1 with | lst e1 nl rr =>
        cases r2 with | dat r2 => cases r2 with | lst e2 nl2 rr2 =>
          cases rr2
          cases q1
          cases q2
          obtain ⟨it1, n1, w1, o1, _⟩ := I.lst e1
          obtain ⟨it2, n2, w2, o2, _⟩ := I.lst e2
          cases w2
          obtain ⟨ws, its, a1, a2, a3⟩ := lists_rep I rr q w1
          have hll : ls.length = its.length := by rw [← a1.length, ← w1.length, rr.length]; exact (listsOf_len q).symm
          have hsz : its.flatten.length ≤ sizeLine := by
            rw [← a2.length, a3.length, flatten_len]
            exact szOk_le hz
          refine call_sum2 (I.ok.hd hc) ⟨_, o1, rfl, _, rfl⟩ a1 o2 hsz fun h' t n k ho e3 => ?_
          rcases ho with ⟨rfl, hl⟩ | hn
          · have hl2 : ls = [] := List.length_eq_zero_iff.mp (hll.trans hl)
            subst hl2
            exact ⟨.ref _, H, I.kept (t' := s.toks) k, rfl, f.here R (.dat (.lst e2 nl2 .nil))⟩
          · have hnH : H t = none := I.hok.fresh hn
            refine ⟨.ref t, upd H t (.lst ws.flatten), I.laid (t' := s.toks) k hn ⟨by rw [a2.length]; exact hsz, _, _, a2, e3⟩, rfl, f.new R hnH (new_lst hnH R a3)⟩
  · cases e'
end
end DL
end
section
set_option Elab.async false
set_option linter.all false
set_option autoImplicit false
set_option maxRecDepth 100000
/-! The data layer, part i: iterators, targets, list comprehensions. -/
namespace DL
open PySem PySem.Spec PyProof.Rows L2

abbrev EF : EK := ⟨False, fun _ _ _ _ => False⟩
section
variable {K : PySem.W.Frag} {w : World} {T : List (Addr × Str)} {h h1 : Store} {μ μ1 : Mu} {H H1 : Hp} {α β : Type}
theorem Go.ok {E : EK} {m : M α} {a : α} {h' : Store} {Φ : α → Store → Mu → Hp → Prop} (e : m h = .ok a h') (f : ∀ μ' H', Step h μ H h' μ' H' → HRel K w T H' h' μ' → Φ a h' μ' H') : Go K w T E h μ H m Φ := (Go.of_ok e).mpr f
theorem Go.inv {m : M α} {Φ : α → Store → Mu → Hp → Prop} (g : Go K w T EF h μ H m Φ) : ∃ a h', m h = .ok a h' ∧ ∀ μ' H', Step h μ H h' μ' H' → HRel K w T H' h' μ' → Φ a h' μ' H' := by
  cases e : m h with
  | ok a h' => exact ⟨a, h', rfl, (Go.of_ok e).mp g⟩
  | err e' h' => exact ((Go.of_err e).mp g).1.elim
  | no => exact ((Go.of_no e).mp g).elim
theorem M.bind_inv {m : M α} {f : α → M β} {b : β} {h h2 : Store} (e : m.bind f h = .ok b h2) : ∃ a h1, m h = .ok a h1 ∧ f a h1 = .ok b h2 := by
  unfold M.bind at e
  split at e
  · rename_i a h1 q; exact ⟨a, h1, q, e⟩
  · cases e
  · cases e
theorem M.opt_inv {o : Option α} {a : α} {h h2 : Store} (e : M.opt o h = .ok a h2) : o = some a ∧ h2 = h := by
  cases o with
  | some b => have e' : Res.ok b h = Res.ok a h2 := e; cases e'; exact ⟨rfl, rfl⟩
  | none => cases (show Res.no = _ from e)
theorem M.rd_inv {f : Store → Option α} {a : α} {h h2 : Store} (e : M.rd f h = .ok a h2) : f h = some a ∧ h2 = h := by
  unfold M.rd at e
  split at e
  · rename_i q; cases e; exact ⟨q, rfl⟩
  · cases e
theorem M.ret_inv {a b : α} {h h2 : Store} (e : (M.ret a : M α) h = .ok b h2) : b = a ∧ h2 = h := by
  have e' : Res.ok a h = Res.ok b h2 := e
  cases e'; exact ⟨rfl, rfl⟩
theorem quiet_inv {m : M α} {a : α} {h h2 : Store} (e : quiet m h = .ok a h2) : m h = .ok a h2 := by
  unfold quiet at e
  split at e
  · cases e
  · exact e
theorem quiet_ne {m : M α} {x : Err} {h h2 : Store} (e : quiet m h = .err x h2) : False := by
  unfold quiet at e
  split at e
  · cases e
  · rename_i n; exact n _ _ e
end

/-! ### iterators -/
def ItR (K : PySem.W.Frag) (w : World) (T : List (Addr × Str)) (h : Store) (μ : Mu) (H : Hp) (J : L2.It) (xs : List D) : Prop :=
  ∀ (i : Nat) (h' : Store) (μ' : Mu) (H' : Hp), StepL h μ H h' μ' H' → HRel K w T H' h' μ' →
    (xs.length ≤ i → J.stop i H') ∧ ∀ x, xs[i]? = some x → J.go i H' ∧ ∀ v H'', J.yld i H' v H'' → Step h' μ' H' h' μ' H'' ∧ HRel K w T H'' h' μ' ∧ RpD K w h' μ' H'' v x
def iD (K : PySem.W.Frag) (w : World) (T : List (Addr × Str)) (C : Nat → List D → M D) (it : DL.It) : TI := fun σ H R => ∃ ρ h μ, EnvR K w h μ H σ ρ ∧ HRel K w T H h μ ∧
  Go K w T EF h μ H (denIt C it ρ) fun xs h' μ' H' => ∀ J : L2.It, ItR K w T h' μ' H' J xs → R J H'
section
variable {K : PySem.W.Frag} {w : World} {T : List (Addr × Str)} {h h1 : Store} {μ μ1 : Mu} {H H1 : Hp}
theorem RpDs.get' : ∀ {vs : List V} {ds : List D} {i : Nat} {v : V}, RpDs K w h μ H vs ds → vs[i]? = some v → ∃ d, ds[i]? = some d ∧ RpD K w h μ H v d
  | _, _, _, _, .nil, e => by simp at e
  | _, _, 0, _, .cons r _, e => by simp at e; subst e; exact ⟨_, rfl, r⟩
  | _, _, i + 1, d, .cons _ a, e => by
    obtain ⟨v, e1, e2⟩ := RpDs.get' (i := i) (v := d) a (by simpa using e)
    exact ⟨v, by simpa using e1, e2⟩
theorem itr_list {a : Addr} {vs : List V} {xs : List D} (f : ∀ h' μ' H', StepL h μ H h' μ' H' → HRel K w T H' h' μ' → SqL K H' a vs ∧ RpDs K w h' μ' H' vs xs) : ItR K w T h μ H (Itl K a) xs := by
  intro i h' μ' H' s R
  obtain ⟨q, rs⟩ := f h' μ' H' s R
  refine ⟨fun hi => ⟨vs, q, by rw [rs.length]; exact hi⟩, fun x hx => ?_⟩
  obtain ⟨v, hv, rv⟩ := rs.get hx
  refine ⟨⟨vs, v, q, hv⟩, fun v' H'' y => ?_⟩
  obtain ⟨e, y⟩ := y
  subst e
  have e2 := y vs q
  rw [hv] at e2
  cases e2
  exact ⟨.refl, R, rv⟩
theorem itr_tup {a : Addr} {vs : List V} {xs : List D} (f : ∀ h' μ' H', StepL h μ H h' μ' H' → HRel K w T H' h' μ' → SqT K H' a vs ∧ RpDs K w h' μ' H' vs xs) : ItR K w T h μ H (Itt K a) xs := by
  intro i h' μ' H' s R
  obtain ⟨q, rs⟩ := f h' μ' H' s R
  refine ⟨fun hi => ⟨vs, q, by rw [rs.length]; exact hi⟩, fun x hx => ?_⟩
  obtain ⟨v, hv, rv⟩ := rs.get hx
  refine ⟨⟨vs, v, q, hv⟩, fun v' H'' y => ?_⟩
  obtain ⟨e, y⟩ := y
  subst e
  have e2 := y vs q
  rw [hv] at e2
  cases e2
  exact ⟨.refl, R, rv⟩
theorem itr_range {n : Nat} : ItR K w T h μ H (Itr 0 n) ((List.range n).map fun (i : Nat) => .dat (.int (i : Int))) := by
  intro i h' μ' H' s R
  refine ⟨fun hi => (show n ≤ i by simpa using hi), fun x hx => ?_⟩
  simp only [List.getElem?_map, Option.map_eq_some_iff] at hx
  obtain ⟨k, hk, ex⟩ := hx
  have hk' := List.getElem?_eq_some_iff.mp hk
  obtain ⟨hlt, ek⟩ := hk'
  rw [List.getElem_range] at ek
  subst ek
  subst ex
  refine ⟨(show i < n by simpa using hlt), fun v H'' y => ?_⟩
  obtain ⟨e, y⟩ := y
  subst e
  subst y
  refine ⟨.refl, R, ?_⟩
  rw [Int.zero_add]
  exact .dat (.int _)
theorem itr_str {z : Str} : ItR K w T h μ H (Its z) (z.cps.toList.map fun c => .dat (.str ⟨#[c]⟩)) := by
  intro i h' μ' H' s R
  refine ⟨fun hi => (show z.cps.size ≤ i by simpa using hi), fun x hx => ?_⟩
  simp only [List.getElem?_map, Option.map_eq_some_iff] at hx
  obtain ⟨k, hk, ex⟩ := hx
  subst ex
  have hk' : z.cps[i]? = some k := by simpa using hk
  refine ⟨(Array.getElem?_eq_some_iff.mp hk').1, fun v H'' y => ?_⟩
  obtain ⟨e, c, hc, y⟩ := y
  subst e
  subst y
  rw [hk'] at hc
  cases hc
  exact ⟨.refl, R, .dat (.str _)⟩
theorem itr_zip {a b : Addr} {vs us : List V} {xs ys : List PyData} (f : ∀ h' μ' H', StepL h μ H h' μ' H' → HRel K w T H' h' μ' → SqL K H' a vs ∧ RpAll K (Lv h' μ') H' vs xs) (g : ∀ h' μ' H', StepL h μ H h' μ' H' → HRel K w T H' h' μ' → SqL K H' b us ∧ RpAll K (Lv h' μ') H' us ys) :
    ItR K w T h μ H (Itz K a b) ((xs.zip ys).map fun p => .dat (.tuple [p.1, p.2])) := by
  intro i h' μ' H' s R
  obtain ⟨q, rs⟩ := f h' μ' H' s R
  obtain ⟨q2, rs2⟩ := g h' μ' H' s R
  refine ⟨fun hi => ⟨vs, us, q, q2, ?_⟩, fun x hx => ?_⟩
  · rw [rs.length, rs2.length]
    simp only [List.length_map, List.length_zip] at hi
    omega
  · simp only [List.getElem?_map, Option.map_eq_some_iff] at hx
    obtain ⟨⟨x1, y1⟩, hk, ex⟩ := hx
    subst ex
    rw [List.getElem?_zip_eq_some] at hk
    obtain ⟨v, hv, rv⟩ := rs.get hk.1
    obtain ⟨u, hu, ru⟩ := rs2.get hk.2
    refine ⟨⟨vs, us, v, u, q, q2, hv, hu⟩, fun v' H'' y => ?_⟩
    obtain ⟨p, v2, u2, e1, e2, e3, y1, y2⟩ := y
    have z1 := y1 vs q
    have z2 := y2 us q2
    rw [hv] at z1; rw [hu] at z2
    cases z1; cases z2
    subst e1 e3
    exact ⟨.new e2, R.new e2, new_tup e2 R (.cons rv (.cons ru .nil))⟩
end
section
variable {X : Cx} {T : List (Addr × Str)} {C : Nat → List D → M D} {tg : Expr}
theorem items_rep {K : PySem.W.Frag} {w : World} {h : Store} {μ : Mu} {H : Hp} {vs : List V} {xs : List PyData} (r : RpAll K (Lv h μ) H vs xs) : RpDs K w h μ H vs (xs.map .dat) := RpDs.of r
theorem pi_seq {e : Expr} {x : Ex} (he : PDE X T EF C e x) : PI X tg e (iD X.K X.w T C (.seq x)) := by
  refine ⟨fun pins s σ H R I h => ?_⟩
  obtain ⟨ρ, h, μ, en, Rh, g⟩ := h
  refine thn (he.run pins s σ H (fun v H' => (∃ a, v = .ref a ∧ (∃ vs, SqL X.K H' a vs) ∧ R (Itl X.K a) H') ∨ (∃ a, v = .ref a ∧ (∃ vs, SqT X.K H' a vs) ∧ R (Itt X.K a) H') ∨ ∃ z, v = .str z ∧ R (Its z) H') I
    ⟨ρ, h, μ, en, Rh, g.bind.mono fun d h1 μ1 H1 s1 R1 g1 v rv => ?_⟩) fun v s1 ⟨y, H1, I1, r1, q⟩ => ?_
  · obtain ⟨xs, ex, f⟩ := Go.rd g1
    have f2 := f μ1 H1 .refl R1
    cases d with
    | dat d =>
      cases rv with | dat rv =>
      cases d with
      | list xs' =>
        cases ex
        cases rv with
        | lst e1 nl rr => exact .inl ⟨_, rfl, ⟨_, .inl (.inl e1)⟩, f2 _ (itr_list fun h' μ' H' st _ => ⟨.inl (.inl (st.ext _ _ e1 nl fun _ z => by cases z)), items_rep (rr.stepL st)⟩)⟩
      | tuple xs' =>
        cases ex
        cases rv with
        | tup e1 rr => exact .inr (.inl ⟨_, rfl, ⟨_, e1.sq⟩, f2 _ (itr_tup fun h' μ' H' st _ => ⟨(e1.stepL st).sq, items_rep (rr.stepL st)⟩)⟩)
      | str z =>
        cases ex
        cases rv
        exact .inr (.inr ⟨z, rfl, f2 _ itr_str⟩)
      | _ => cases ex
    | ro xs' =>
      cases ex
      cases rv with
      | ro e1 rr => exact .inl ⟨_, rfl, ⟨_, e1.sq⟩, f2 _ (itr_list fun h' μ' H' st _ => ⟨(e1.stepL st).sq, items_rep (rr.stepL st)⟩)⟩
    | _ => cases ex
  · rcases q with ⟨a, e, ⟨xs, hq⟩, q⟩ | ⟨a, e, ⟨xs, hq⟩, q⟩ | ⟨z, e, q⟩
    · subst e
      cases r1
      obtain ⟨its, rv, p, hz⟩ := I1.list hq
      exact wpAny_pyIter_list p.isList (pi_one (tk := s1.toks) I1 _ (turn_list a _) ⟨_, Heap.get?_push_size _ rfl, rfl, rfl⟩ q)
    · subst e
      cases r1
      obtain ⟨its, rv, p, hz⟩ := I1.tuple hq
      exact wpAny_pyIter_tuple (show s1.heap.IsTuple a its.toArray from p) (pi_one (tk := s1.toks) I1 _ (turn_tuple a _) ⟨_, Heap.get?_push_size _ rfl, rfl, rfl⟩ q)
    · subst e
      obtain ⟨t, rfl⟩ := r1
      cases ha : z.cps.all (· < 128)
      · exact wpAny_pyIter_wide ha (pi_one (tk := s1.toks) I1 _ (turn_str _ z t "str_iterator" (.inr rfl)) ⟨_, Heap.get?_push_size _ rfl, rfl, rfl⟩ q)
      · exact wpAny_pyIter_ascii ha (pi_one (tk := s1.toks) I1 _ (turn_str _ z t "str_ascii_iterator" (.inl rfl)) ⟨_, Heap.get?_push_size _ rfl, rfl, rfl⟩ q)
theorem pi_rng {a : Expr} {x : Ex} {f : Str} {p pos : Pos} (hf : f = ("range" : Str)) (hg : Gl X "range") (hm : X.mg "range" = none) (ha : PDE X T EF C a x) (hn : ∀ u v, a ≠ .Starred u v) : PI X tg (.Call (.Name f p) [a] [] pos) (iD X.K X.w T C (.rng x)) := by
  subst hf
  refine (pi_range1 hg hm (pda_cons ha pda_nil hn) (by rw [starEach_ne hn]; rfl)).imp fun σ H R ⟨ρ, h, μ, en, Rh, g⟩ => ⟨ρ, h, μ, en, Rh, (Go.one g.bind).mono fun ds h1 μ1 H1 s1 R1 ⟨d, e, g1⟩ vs rs => ?_⟩
  subst e
  obtain ⟨v, rfl, rv⟩ := one_rep rs
  obtain ⟨xs, ex, f⟩ := Go.rd g1
  obtain ⟨j, e1, e2⟩ := Option.bind_eq_some_iff.mp ex
  have e3 := asInt_some e1
  obtain rfl := (rd_rep R1 rv e3).int
  split at e2
  · rename_i hz
    cases e2
    simp only [Bool.and_eq_true, decide_eq_true_eq] at hz
    exact ⟨j, rfl, hz.1, hz.2, f μ1 H1 .refl R1 _ itr_range⟩
  · cases e2
theorem pi_zipD {a b : Expr} {x y : Ex} {f : Str} {p pos tpos : Pos} {elts : List Expr} {kk : Nat} (hf : f = ("zip" : Str)) (hg : Gl X "zip") (hm : X.mg "zip" = none) (ha : PDE X T EF C a x) (hb : PDE X T EF C b y) (hn : ∀ u v, a ≠ .Starred u v) (hn2 : ∀ u v, b ≠ .Starred u v) :
    PI X (.Tuple elts kk tpos) (.Call (.Name f p) [a, b] [] pos) (iD X.K X.w T C (.zip x y)) := by
  subst hf
  refine (pi_zip hg hm (pda_cons ha (pda_cons hb pda_nil hn2) hn) (by rw [starEach_ne hn]) (by rw [starEach_ne hn2]; rfl)).imp fun σ H R ⟨ρ, h, μ, en, Rh, g⟩ => ⟨ρ, h, μ, en, Rh, ?_⟩
  have g' : Go X.K X.w T EF h μ H ((den C x ρ).bind fun d => (den C y ρ).bind fun d2 => M.opt (match d, d2 with | .dat (.list xs), .dat (.list ys) => some ((xs.zip ys).map fun p => .dat (.tuple [p.1, p.2])) | _, _ => none)) fun xs h' μ' H' => ∀ J : L2.It, ItR X.K X.w T h' μ' H' J xs → R J H' := g
  show Go X.K X.w T EF h μ H ((den C x ρ).bind fun d => ((den C y ρ).bind fun d2 => (M.ret []).bind fun ds => M.ret (d2 :: ds)).bind fun ds => M.ret (d :: ds)) _
  have r : ((den C x ρ).bind fun d => ((den C y ρ).bind fun d2 => (M.ret []).bind fun ds => M.ret (d2 :: ds)).bind fun ds => M.ret (d :: ds)) = (den C x ρ).bind fun d => (den C y ρ).bind fun d2 => M.ret [d, d2] := by
    refine congrArg (M.bind (den C x ρ)) (funext fun d => ?_)
    rw [M.assoc]
    exact congrArg (M.bind (den C y ρ)) (funext fun d2 => rfl)
  rw [r]
  cases e1 : den C x ρ h with
  | no => exact ((Go.of_no (M.bind_no e1)).mp g').elim
  | err e' h' => exact (Go.of_err (M.bind_err e1)).mpr ((Go.of_err (M.bind_err e1)).mp g')
  | ok d h1 =>
    cases e2 : den C y ρ h1 with
    | no => exact ((Go.of_no ((M.bind_ok e1).trans (M.bind_no e2))).mp g').elim
    | err e' h' => exact (Go.of_err ((M.bind_ok e1).trans (M.bind_err e2))).mpr ((Go.of_err ((M.bind_ok e1).trans (M.bind_err e2))).mp g')
    | ok d2 h2 =>
      refine (Go.of_ok ((M.bind_ok e1).trans ((M.bind_ok e2).trans rfl))).mpr fun μ2 H2 s2 R2 vs rs => ?_
      cases rs with | cons rv rs =>
      obtain ⟨v2, rfl, rv2⟩ := one_rep rs
      have e3 : ((den C x ρ).bind fun d => (den C y ρ).bind fun d2 => M.opt (match d, d2 with | .dat (.list xs), .dat (.list ys) => some ((xs.zip ys).map fun p => D.dat (.tuple [p.1, p.2])) | _, _ => none)) h = M.opt (match d, d2 with | .dat (.list xs), .dat (.list ys) => some ((xs.zip ys).map fun p => D.dat (.tuple [p.1, p.2])) | _, _ => none) h2 := (M.bind_ok e1).trans (M.bind_ok e2)
      cases e4 : (match d, d2 with | .dat (.list xs), .dat (.list ys) => some ((xs.zip ys).map fun p => D.dat (.tuple [p.1, p.2])) | _, _ => none : Option (List D)) with
      | none => rw [e4] at e3; exact ((Go.of_no e3).mp g').elim
      | some zs =>
        rw [e4] at e3
        have g3 := (Go.of_ok e3).mp g' μ2 H2 s2 R2
        split at e4
        · cases e4
          cases rv with | dat rv => cases rv with | lst q1 nl rr =>
            cases rv2 with | dat rv2 => cases rv2 with | lst q2 nl2 rr2 =>
              exact ⟨_, _, _, _, rfl, .inl (.inl q1), .inl (.inl q2), g3 _ (itr_zip (fun h' μ' H' st _ => ⟨.inl (.inl (st.ext _ _ q1 nl fun _ z => by cases z)), rr.stepL st⟩) fun h' μ' H' st _ => ⟨.inl (.inl (st.ext _ _ q2 nl2 fun _ z => by cases z)), rr2.stepL st⟩)⟩
        · cases e4
end
end DL
end
section
set_option Elab.async false
set_option linter.all false
set_option autoImplicit false
set_option maxRecDepth 100000
/-! The data layer, part j: targets, list comprehensions. -/
namespace DL
open PySem PySem.Spec PyProof.Rows L2

/-! ### targets -/
def gT (K : PySem.W.Frag) (w : World) (T : List (Addr × Str)) (t : Tg) : TG := fun v σ H Q => ∃ ρ h μ x ρ', EnvR K w h μ H σ ρ ∧ HRel K w T H h μ ∧ RpD K w h μ H v x ∧ assignT t ρ x = some ρ' ∧
  ∀ σ' : L2.St, σ'.length = σ.length → (∀ j, j ∉ tgIds t → σ'[j]? = σ[j]?) → EnvR K w h μ H σ' ρ' → Q σ' H
theorem _root_.L2.PG.imp {X : Cx} {e : Expr} {t t' : TG} (p : PG X e t) (f : ∀ v σ H Q, t' v σ H Q → t v σ H Q) : PG X e t' := ⟨fun pins s σ H v u Q I r h => p.run pins s σ H v u Q I r (f v σ H Q h)⟩
section
variable {X : Cx} {T : List (Addr × Str)} {pos : Pos}
theorem pgd_name {i : Nat} {x : Str} (hN : X.N.Nodup) (hi : X.N[i]? = some x) (hx : Loc X.env.scope x) (hf : X.fn x = true ∨ X.env.scope.names.lookup x = some .local) : PG X (.Name x pos) (gT X.K X.w T (.name i)) :=
  (pg_name hN hi hx hf).imp fun v σ H Q ⟨ρ, h, μ, x, ρ', en, R, r, e, f⟩ => by
    cases e
    refine f _ (by rw [List.length_set]) (fun j hj => ?_) (en.set i r)
    have hj' : i ≠ j := fun z => hj (by rw [z]; exact List.mem_singleton.mpr rfl)
    exact List.getElem?_set_ne hj'
/-- the names of a tuple target -/
inductive TgNs (X : Cx) : List Expr → List Nat → Prop where
  | nil : TgNs X [] []
  | cons {i : Nat} {x : Str} {p : Pos} {es : List Expr} {is : List Nat} (hi : X.N[i]? = some x) (hx : Loc X.env.scope x) (hf : X.fn x = true ∨ X.env.scope.names.lookup x = some .local) (r : TgNs X es is) : TgNs X (.Name x p :: es) (i :: is)
def gNs : List Nat → TGs
  | [] => gNil
  | i :: r => gCons (gName i) (gNs r)
theorem pgs_ns (hN : X.N.Nodup) {es : List Expr} {is : List Nat} (t : TgNs X es is) : PGs X es (gNs is) := by
  induction t with
  | nil => exact pgs_nil
  | cons hi hx hf r ih => exact pgs_cons (pg_name hN hi hx hf) ih
theorem ns_len {es : List Expr} {is : List Nat} (t : TgNs X es is) : (assignEach es X.env).length = is.length ∧ (assignEach es X.env).findIdx? (·.1) = none := by
  induction t with
  | nil => exact ⟨rfl, rfl⟩
  | @cons i x p es is hi hx hf r ih =>
    have e : assignEach (.Name x p :: es) X.env = (false, assign (.Name x p) X.env) :: assignEach es X.env := rfl
    rw [e]
    refine ⟨by rw [List.length_cons, List.length_cons, ih.1], ?_⟩
    rw [List.findIdx?_cons, ih.2]
    rfl
theorem gNs_of {K : PySem.W.Frag} {w : World} {h : Store} {μ : Mu} {H : Hp} {Q : L2.St → Hp → Prop} : ∀ (is : List Nat) (vs : List V) (ds : List PyData) (σ : L2.St) (ρ : Rho), RpDs K w h μ H vs (ds.map .dat) → is.length = ds.length → EnvR K w h μ H σ ρ →
    (∀ σ' : L2.St, σ'.length = σ.length → (∀ j, j ∉ is → σ'[j]? = σ[j]?) → EnvR K w h μ H σ' ((is.zip ds).foldl (fun ρ p => ρ.set p.1 (some (.dat p.2))) ρ) → Q σ' H) → gNs is vs σ H Q
  | [], vs, [], σ, ρ, rs, _, en, f => by
    cases rs
    exact ⟨rfl, f σ rfl (fun _ _ => rfl) en⟩
  | i :: is, vs, d :: ds, σ, ρ, rs, hl, en, f => by
    cases rs with
    | cons r rs =>
      refine ⟨_, _, rfl, ?_⟩
      refine gNs_of is _ ds _ _ rs (Nat.succ.inj hl) (en.set i r) fun σ' hl' hs en' => f σ' (by rw [hl', List.length_set]) (fun j hj => ?_) en'
      rw [hs j (fun z => hj (List.mem_cons_of_mem _ z))]
      exact List.getElem?_set_ne fun z => hj (by rw [z]; exact List.mem_cons_self)
  | [], _, _ :: _, _, _, _, hl, _, _ => by cases hl
  | _ :: _, _, [], _, _, _, hl, _, _ => by cases hl
theorem pgd_tup (hc : X.calm = true) (hN : X.N.Nodup) {es : List Expr} {is : List Nat} {k : Nat} (t : TgNs X es is) : PG X (.Tuple es k pos) (gT X.K X.w T (.tup is)) :=
  (pg_tup hc (pgs_ns hN t) (ns_len t).1 (ns_len t).2).imp fun v σ H Q ⟨ρ, h, μ, x, ρ', en, R, r, e, f⟩ => by
    cases r with
    | dat r =>
      cases r with
      | @tup a xs ds e1 rr =>
        have e' : (if is.length = ds.length then some ((is.zip ds).foldl (fun ρ p => ρ.set p.1 (some (.dat p.2))) ρ) else none) = some ρ' := e
        by_cases hl : is.length = ds.length
        · rw [if_pos hl] at e'
          have e2 := Option.some.inj e'
          subst e2
          exact ⟨_, _, rfl, e1.sq, by rw [rr.length]; exact hl.symm, gNs_of is _ _ _ _ (RpDs.of rr) hl en f⟩
        · rw [if_neg hl] at e'; cases e'
      | _ => cases e
    | _ => cases e
end
/-! ### what is forgotten -/
theorem wipe_none {σ : L2.St} {i : Nat} : ∀ {vs : List Nat}, i ∈ vs → (wipe σ vs)[i]? = if i < σ.length then some none else none
  | [], h => by cases h
  | v :: vs, h => by
    unfold wipe
    by_cases z : v = i
    · subst z
      by_cases hl : v < σ.length
      · rw [if_pos hl, List.getElem?_set_self (by rw [wipe_length]; exact hl)]
      · rw [if_neg hl, List.getElem?_eq_none (by rw [List.length_set, wipe_length]; omega)]
    · rw [List.getElem?_set_ne z]
      exact wipe_none ((List.mem_cons.mp h).resolve_left fun q => z q.symm)
theorem wipe_eq {σ σ' : L2.St} {vs is : List Nat} (hl : σ'.length = σ.length) (hs : ∀ j, j ∉ is → σ'[j]? = (wipe σ vs)[j]?) (hsub : ∀ i ∈ is, i ∈ vs) : wipe σ' vs = wipe σ vs := by
  apply List.ext_getElem?
  intro i
  by_cases hi : i ∈ vs
  · rw [wipe_none hi, wipe_none hi, hl]
  · rw [wipe_out hi, wipe_out hi, hs i (fun z => hi (hsub i z)), wipe_out hi]
theorem EnvR.wipe {K : PySem.W.Frag} {w : World} {h : Store} {μ : Mu} {H : Hp} {σ : L2.St} {ρ : Rho} (e : EnvR K w h μ H σ ρ) : ∀ vs : List Nat, EnvR K w h μ H (L2.wipe σ vs) (wipeR ρ vs)
  | [] => e
  | v :: vs => by
    have ih := EnvR.wipe e vs
    show EnvR K w h μ H ((L2.wipe σ vs).set v none) ((wipeR ρ vs).set v none)
    refine ⟨by rw [List.length_set, List.length_set, ih.len], fun j d q => ?_⟩
    by_cases hj : v = j
    · subst hj
      by_cases hi : v < (wipeR ρ vs).length
      · rw [List.getElem?_set_self hi] at q; cases q
      · rw [List.getElem?_eq_none (by rw [List.length_set]; omega)] at q; cases q
    · rw [List.getElem?_set_ne hj] at q ⊢
      exact ih.get j d q

/-! ### a hidden list -/
section
variable {K : PySem.W.Frag} {w : World} {T : List (Addr × Str)} {h h1 : Store} {μ μ1 : Mu} {H H1 : Hp}
mutual
theorem Rp.weak {L L' : Addr → Prop} (f : ∀ a, L' a → L a) : ∀ {v : V} {d : PyData}, Rp K L H v d → Rp K L' H v d
  | _, _, .non => .non
  | _, _, .bl b => .bl b
  | _, _, .int i => .int i
  | _, _, .str x => .str x
  | _, _, .lst e nl r => .lst e (fun z => nl (f _ z)) (RpAll.weak f r)
  | _, _, .tup e r => .tup (e.imp (fun z => ⟨z.1, fun y => z.2 (f _ y)⟩) id) (RpAll.weak f r)
theorem RpAll.weak {L L' : Addr → Prop} (f : ∀ a, L' a → L a) : ∀ {vs : List V} {ds : List PyData}, RpAll K L H vs ds → RpAll K L' H vs ds
  | _, _, .nil => .nil
  | _, _, .cons r rs => .cons (r.weak f) (RpAll.weak f rs)
end
theorem RpD.weak (f : ∀ a, Lv h μ1 a → Lv h μ a) (hm : μ1.f = μ.f) {v : V} {d : D} (r : RpD K w h μ H v d) : RpD K w h μ1 H v d := by
  cases r with
  | dat r => exact .dat (r.weak f)
  | @«mut» l hl => rw [← hm]; exact .mut hl
  | ro r rs => exact .ro (r.imp (fun z => ⟨z.1, fun y => z.2 (f _ y)⟩) id) (rs.weak f)
  | st e nl => exact .st e fun z => nl (f _ z)
  | dic e nl r k nd => exact .dic e (fun z => nl (f _ z)) (Paired.mapP r fun _ _ z => ⟨z.1, z.2.1.weak f, z.2.2.weak f⟩) k nd
theorem RpDs.weak (f : ∀ a, Lv h μ1 a → Lv h μ a) (hm : μ1.f = μ.f) {vs : List V} {ds : List D} (r : RpDs K w h μ H vs ds) : RpDs K w h μ1 H vs ds := by
  induction r with
  | nil => exact .nil
  | cons a _ ih => exact .cons (a.weak f hm) ih
theorem tab_upd {p : Addr} {ws : List V} {o : HO} (t : LamX.Tabs T H) (e0 : H p = some (.lst ws)) : LamX.Tabs T (upd H p o) := fun q hq => by
  obtain ⟨ps, t1, t2, t3⟩ := t q hq
  have nP : ∀ b u, H b = some u → (∀ xs, u ≠ .lst xs) → b ≠ p := fun b u q n z => by rw [z, e0] at q; exact n ws (Option.some.inj q).symm
  refine ⟨ps, by rw [upd_ne (nP _ _ t1 fun xs z => by cases z)]; exact t1, t2, fun pos cv hc => ?_⟩
  obtain ⟨c, c1, c2⟩ := t3 pos cv hc
  exact ⟨c, c1, by rw [upd_ne (nP _ _ c2 fun xs z => by cases z)]; exact c2⟩
theorem tab_ext {o : HO} {p : Addr} (t : LamX.Tabs T H) (φ : HO → Prop) (e0 : ∃ u, H p = some u ∧ φ u) (hφ : ∀ u, φ u → (∀ ps, u ≠ .tbl ps)) : True := True.intro
/-- a hidden list comes -/
def Mu.hide (μ : Mu) (p : Addr) : Mu := ⟨μ.f, fun a => μ.hid a ∨ a = p⟩
def Mu.show (μ : Mu) (p : Addr) : Mu := ⟨μ.f, fun a => μ.hid a ∧ a ≠ p⟩
theorem hide_step {p : Addr} {o : HO} (hp : H p = none) : StepL h μ H h (μ.hide p) (upd H p o) where
  ext := fun a u e _ _ => by rw [upd_ne (ne_of_none e hp)]; exact e
  mu := fun _ _ => rfl
  len := Nat.le_refl _
  liv := fun _ z => .inl z
  there := fun a u e => ⟨u, by rw [upd_ne (ne_of_none e hp)]; exact e⟩
  hid := fun a z => z.imp id fun e => by rw [e]; exact hp
theorem hide_rel {p : Addr} {o : HO} (hp : H p = none) (R : HRel K w T H h μ) : HRel K w T (upd H p o) h (μ.hide p) where
  obj := fun l ds e => by
    obtain ⟨vs, e1, e2⟩ := R.obj l ds e
    exact ⟨vs, by show upd H p o (μ l) = _; rw [upd_ne (ne_of_none e1 hp)]; exact e1, e2.stepL (hide_step hp)⟩
  inj := R.inj
  tab := R.tab.ext fun b u e => by rw [upd_ne (ne_of_none e hp)]; exact e
  hid := fun a z => by
    rcases z with z | z
    · obtain ⟨⟨u, e⟩, n⟩ := R.hid a z
      exact ⟨⟨u, by rw [upd_ne (ne_of_none e hp)]; exact e⟩, n⟩
    · subst z
      exact ⟨⟨o, upd_same⟩, fun y => R.fresh hp (.inl y)⟩
/-- a hidden list is written -/
theorem hid_step {p : Addr} {o u : HO} (hp : μ.hid p) (e0 : H p = some u) : StepL h μ H h μ (upd H p o) where
  ext := fun a v e nl _ => by rw [upd_ne (fun z => nl (.inr (by rw [z]; exact hp)))]; exact e
  mu := fun _ _ => rfl
  len := Nat.le_refl _
  liv := fun _ z => .inl z
  there := fun a v e => by
    by_cases z : a = p
    · exact ⟨o, by rw [z, upd_same]⟩
    · exact ⟨v, by rw [upd_ne z]; exact e⟩
  hid := fun _ z => .inl z
theorem hid_rel {p : Addr} {ws us : List V} (hp : μ.hid p) (e0 : H p = some (.lst ws)) (R : HRel K w T H h μ) : HRel K w T (upd H p (.lst us)) h μ := by
  refine R.of_step (hid_step hp e0) (fun l ds e => ?_) (tab_upd R.tab e0)
  exact upd_ne fun z => (R.hid p hp).2 ⟨l, ds, e, z⟩
/-- it is seen -/
theorem show_rel {p : Addr} (R : HRel K w T H h μ) : HRel K w T H h (μ.show p) where
  obj := fun l ds e => by
    obtain ⟨vs, e1, e2⟩ := R.obj l ds e
    exact ⟨vs, e1, RpDs.weak (μ1 := μ.show p) (fun a z => z.imp id fun y => And.left (show μ.hid a ∧ a ≠ p from y)) rfl e2⟩
  inj := R.inj
  tab := R.tab
  hid := fun a z => R.hid a z.1
theorem show_lv {p : Addr} (R : HRel K w T H h μ) (hp : μ.hid p) : ¬ Lv h (μ.show p) p := fun z => z.elim (R.hid p hp).2 fun y => y.2 rfl
end
end DL
end
section
set_option Elab.async false
set_option linter.all false
set_option autoImplicit false
set_option maxRecDepth 100000
/-! The data layer, part k: list comprehensions. -/
namespace DL
open PySem PySem.Spec PyProof.Rows L2

def tC (K : PySem.W.Frag) (w : World) (T : List (Addr × Str)) (C : Nat → List D → M D) (c : Ox) : TT := fun σ H Q => ∃ ρ h μ, EnvR K w h μ H σ ρ ∧ HRel K w T H h μ ∧ Go K w T EF h μ H (denc C c ρ) fun b h' μ' H' => Q b H'
theorem _root_.L2.PTs.imp {X : Cx} {e : List Expr} {t t' : TT} (p : PTs X e t) (f : ∀ σ H Q, t' σ H Q → t σ H Q) : PTs X e t' := ⟨fun pins s σ H Q I h => p.run pins s σ H Q I (f σ H Q h)⟩
section
variable {X : Cx} {T : List (Addr × Str)} {C : Nat → List D → M D}
theorem ptsd_nil : PTs X [] (tC X.K X.w T C .none) := pts_nil.imp fun σ H Q ⟨ρ, h, μ, en, R, g⟩ => Go.ret' g R
theorem ptsd_one {c : Expr} {x : Ex} (hc : PDT X T EF C c x) : PTs X [c] (tC X.K X.w T C (.some x)) := (pts_one hc).imp fun σ H Q h => h
end

end DL
end
section
set_option Elab.async false
set_option linter.all false
set_option autoImplicit false
set_option maxRecDepth 100000
/-! The data layer, part m: dicts whose keys are numbers, texts, None, tuples of such, mixed. -/
namespace DL
open PySem PySem.Spec PyProof.Rows L2

/-- the entries' keys, by what they are -/
structure KeysM (w : World) (h : Heap) (es : Array DictEntry) (ks : List NestedKey) : Prop where
  len : es.size = ks.length
  at' : ∀ (j : Nat) (k : NestedKey), ks[j]? = some k → ∃ e, es[j]? = some e ∧ NestedIs h k e.key ∧ k.depth ≤ 8 ∧ e.hash = k.hash w
  nodup : ks.Nodup

section
variable {prog : Program} {w : World} {A : Around} {E : Value → Shared → Prop} {s : Shared}
theorem wp_ite {α : Type} {M : Model} {c : Prop} [Decidable c] {x y : Sem α} {Q : α → Shared → Prop} (h1 : c → wpAny M A x Q E s) (h2 : ¬ c → wpAny M A y Q E s) : wpAny M A (if c then x else y) Q E s := by
  by_cases h : c
  · rw [if_pos h]; exact h1 h
  · rw [if_neg h]; exact h2 h
theorem mix_eq {x y : NestedKey} {u v : Value} {Q : Bool → Shared → Prop} (hu : A.units + 8 < cLine) (hx : NestedIs s.heap x u) (dx : x.depth ≤ 8) (hy : NestedIs s.heap y v) (h : Q (decide (x = y)) s) : wpAny (model prog w) A (eqBool u v) Q E s :=
  eqAt_key x y A s u v hx hy (by omega) _ _ _ _ (by rw [← NestedKey.decide_eq]; exact h)
theorem mix_tells {key : Value} {k : NestedKey} {stored : List Value} {Q : Bool → Shared → Prop} (hkey : NestedIs s.heap k key) (hd : k.depth ≤ 8)
    (hst : ∀ v ∈ stored, ∃ k' : NestedKey, NestedIs s.heap k' v ∧ k'.depth ≤ 8) (h : Q false s) : wpAny (model prog w) A (tableMayTell key stored) Q E s := by
  unfold tableMayTell
  split
  · exact wpAny_pure h
  · refine wpAny_bind (quiet_key k key 8 s hkey hd _ _ _ ?_)
    simp only [Bool.not_true, Bool.false_eq_true, if_false]
    refine wpAny_bind ?_
    refine wpAny_forIn_list _ (fun rest r s' => s' = s ∧ r = (none, ()) ∧ ∀ v ∈ rest, ∃ k' : NestedKey, NestedIs s.heap k' v ∧ k'.depth ≤ 8) _ ?_ ?_ _ _ ⟨rfl, rfl, hst⟩
    · rintro x rest r s' ⟨rfl, rfl, hr⟩
      obtain ⟨k', hb, hd'⟩ := hr x List.mem_cons_self
      refine wpAny_bind (quiet_key k' x 8 _ hb hd' _ _ _ ?_)
      simp only [Bool.not_true, Bool.false_eq_true, if_false]
      exact wpAny_pure ⟨rfl, rfl, fun v hv => hr v (List.mem_cons_of_mem _ hv)⟩
    · rintro r s' ⟨rfl, rfl, _⟩
      exact wpAny_pure h
theorem nodup_at {ks : List NestedKey} (hn : ks.Nodup) {i j : Nat} {k : NestedKey} (hi : ks[i]? = some k) (hj : ks[j]? = some k) : i = j := (List.getElem?_inj (List.getElem?_eq_some_iff.mp hi).1 hn).mp (hi.trans hj.symm)
theorem text_of {h : Heap} {k : NestedKey} {x : Str} {t : Tok} (r : NestedIs h k (.str x t)) : k = .text x := by cases r; rfl

theorem mixFind {d : Addr} {o : Obj} {es : Array DictEntry} {ep : Nat} {ks : List NestedKey} {k : NestedKey} {key : Value} {Q : Option Nat → Shared → Prop} (hu : A.units + 8 < cLine) (hkey : NestedIs s.heap k key) (hkd : k.depth ≤ 8)
    (ho : s.heap.get? d = some o) (hd : o.data = .dict es ep) (M : KeysM w s.heap es ks) (hnone : k ∉ ks → Q none s) (hsome : ∀ j : Nat, ks[j]? = some k → Q (some j) s) :
    wpAny (model prog w) A (dictFind d key (k.hash w)) Q E s := by
  have entry : ∀ (j : Nat) (hj : j < es.size), ∃ k', ks[j]? = some k' ∧ NestedIs s.heap k' es[j].key ∧ k'.depth ≤ 8 ∧ es[j].hash = k'.hash w := fun j hj => by
    have hl : j < ks.length := by rw [← M.len]; exact hj
    obtain ⟨e, e1, e2, e3, e4⟩ := M.at' j ks[j] (List.getElem?_eq_getElem hl)
    rw [Array.getElem?_eq_getElem hj] at e1
    cases e1
    exact ⟨_, List.getElem?_eq_getElem hl, e2, e3, e4⟩
  have haskey : ∀ j : Nat, ks[j]? = some k → ((es[j]?.map (·.hash)) == some (k.hash w)) = true := fun j hj => by
    obtain ⟨e, e1, e2, e3, e4⟩ := M.at' j k hj
    rw [e1, Option.map_some, e4]
    exact beq_self_eq_true _
  have hany : ¬ (es.any fun e => e.key == key && e.hash != k.hash w) = true := by
    rw [← Array.any_toList, List.any_eq_true]
    rintro ⟨e, hin, hc⟩
    obtain ⟨j, hj, rfl⟩ := Array.mem_iff_getElem.mp (Array.mem_toList_iff.mp hin)
    obtain ⟨k', e1, e2, e3, e4⟩ := entry j hj
    simp only [Bool.and_eq_true, beq_iff_eq, bne_iff_ne, ne_eq] at hc
    obtain ⟨hxa, hne⟩ := hc
    rw [hxa] at e2
    exact hne (by rw [e4, NestedIs.inj _ _ _ e2 hkey])
  have hst : ∀ v ∈ (placesWithHash es.size (fun i => es[i]?.map (·.hash)) (k.hash w)).filterMap (fun i => es[i]?.map (·.key)), ∃ k' : NestedKey, NestedIs s.heap k' v ∧ k'.depth ≤ 8 := by
    intro v hv
    obtain ⟨i, _, hi⟩ := List.mem_filterMap.mp hv
    cases hei : es[i]? with
    | none => rw [hei] at hi; cases hi
    | some e =>
      rw [hei] at hi
      obtain rfl : e.key = v := by simpa using hi
      obtain ⟨hlt, rfl⟩ := Array.getElem?_eq_some_iff.mp hei
      obtain ⟨k', _, e2, e3, _⟩ := entry i hlt
      exact ⟨k', e2, e3⟩
  -- what the places tell
  have noneOf : (∀ j : Nat, j < es.size → ks[j]? ≠ some k) → k ∉ ks := fun h hm => by
    obtain ⟨j, hj, e⟩ := List.mem_iff_getElem.mp hm
    exact h j (by rw [M.len]; exact hj) (by rw [List.getElem?_eq_getElem hj, e])
  have old : wpAny (model prog w) A (dictWalkPlain d key (k.hash w) es (placesWithHash es.size (fun i => es[i]?.map (·.hash)) (k.hash w))) Q E s := by
    refine wpAny_bind ?_
    refine wpAny_forIn_list _
      (fun rest b s' => s' = s ∧ b = (none, ()) ∧ ∃ i, rest = (List.range' i (es.size - i)).filter (fun i => (es[i]?.map (·.hash)) == some (k.hash w)) ∧ i ≤ es.size ∧
        ∀ j, j < i → ks[j]? ≠ some k) _ ?_ ?_ _ _
      ⟨rfl, rfl, 0, by rw [placesWithHash, List.range_eq_range', Nat.sub_zero], Nat.zero_le _, fun _ h => absurd h (Nat.not_lt_zero _)⟩
    · rintro x rest b s' ⟨rfl, rfl, i, hr, hi, hno⟩
      obtain ⟨hix, hxn, hpx, hskip, hrest⟩ := filter_range'_cons _ _ _ _ _ hr.symm
      have hlt : x < es.size := by omega
      obtain ⟨k', hk', his, hdp, hhash⟩ := entry x hlt
      have hnext : ¬ k' = k → ∃ i, rest = (List.range' i (es.size - i)).filter (fun i => (es[i]?.map (·.hash)) == some (k.hash w)) ∧ i ≤ es.size ∧ ∀ j, j < i → ks[j]? ≠ some k := fun hne =>
        ⟨x + 1, by rw [hrest]; congr 2; omega, hlt, fun j hji hjk => by
          rcases Nat.lt_or_ge j i with h | h
          · exact hno j h hjk
          · rcases Nat.lt_or_ge j x with h' | h'
            · have z := hskip j h h'
              rw [haskey j hjk] at z
              exact absurd z (by decide)
            · have : j = x := by omega
              subst this
              rw [hk'] at hjk
              exact hne (Option.some.inj hjk)⟩
      simp only [Array.getElem?_eq_getElem hlt]
      by_cases hh : (es[x].hash == k.hash w) = true
      · rw [if_pos hh]
        refine wpAny_bind (wpAny_dictEpoch ho hd (wpAny_bind (mix_eq hu his hdp hkey (wpAny_bind (wpAny_dictEpoch ho hd ?_)))))
        show wpAny _ _ (if (ep != ep) = true then _ else _) _ E _
        rw [if_neg (by simp)]
        by_cases hkk : k' = k
        · rw [decide_eq_true hkk]
          exact wpAny_bind (wpAny_rule (wpAny_pure (wpAny_pure (hsome x (by rw [hk', hkk])))))
        · rw [decide_eq_false hkk]
          exact wpAny_bind (wpAny_rule (wpAny_pure ⟨rfl, rfl, hnext hkk⟩))
      · rw [if_neg hh]
        refine wpAny_pure ⟨rfl, rfl, hnext fun hkk => ?_⟩
        rw [hhash, hkk] at hh; simp at hh
    · rintro b s' ⟨rfl, rfl, i, hr, hi, hno⟩
      refine wpAny_pure (hnone (noneOf fun j hj hjk => ?_))
      rcases Nat.lt_or_ge j i with h | h
      · exact hno j h hjk
      · have := List.filter_eq_nil_iff.mp hr.symm j (List.mem_range'_1.mpr ⟨h, by omega⟩)
        exact this (haskey j hjk)
  have byStr : ∀ x t, key = .str x t → (es.all fun e => isExactStrKey e.key) = true → wpAny (model prog w) A (foundByValue d key es x) Q E s := by
    intro x t hkt hstrs
    subst hkt
    have hkx := text_of hkey
    subst hkx
    unfold foundByValue
    have his : ∀ (j : Nat) (hj : j < es.size), (es[j].key.isStr x = true ↔ ks[j]? = some (.text x)) := fun j hj => by
      obtain ⟨k', e1, e2, e3, e4⟩ := entry j hj
      have hs : isExactStrKey es[j].key = true := by
        rw [← Array.all_toList, List.all_eq_true] at hstrs
        exact hstrs _ (Array.mem_toList_iff.mpr (Array.getElem_mem hj))
      rw [e1]
      cases hke : es[j].key with
      | str y t' =>
        rw [hke] at e2
        have := text_of e2
        subst this
        show ((y == x) = true ↔ _)
        constructor
        · intro h; rw [eq_of_beq h]
        · intro h; have h := Option.some.inj h; cases h; exact beq_self_eq_true _
      | _ => rw [hke] at hs; cases hs
    cases hf : es.findIdx? (fun e => e.key.isStr x) with
    | none =>
      refine wpAny_pure (hnone (noneOf fun j hj hjk => ?_))
      have := Array.findIdx?_eq_none_iff.mp hf es[j] (Array.getElem_mem hj)
      rw [(his j hj).mpr hjk] at this
      cases this
    | some i =>
      obtain ⟨hlt, hi, _⟩ := Array.findIdx?_eq_some_iff_getElem.mp hf
      obtain ⟨k', e1, e2, e3, e4⟩ := entry i hlt
      have hik := (his i hlt).mp hi
      have hkk : k' = .text x := by rw [hik] at e1; exact (Option.some.inj e1).symm
      simp only [Array.getElem?_eq_getElem hlt]
      refine wpAny_bind (wpAny_dictEpoch ho hd (wpAny_bind (mix_eq hu e2 e3 hkey (wpAny_bind (wpAny_dictEpoch ho hd ?_)))))
      show wpAny _ _ (if (ep != ep) = true then _ else _) _ E _
      rw [if_neg (by simp), decide_eq_true hkk]
      exact wpAny_bind (wpAny_rule (wpAny_pure (hsome i hik)))

  unfold dictFind
  try with_reducible refine wpAny_holding ?_
  refine wpAny_bind (wpAny_dictEntries ho hd ?_)
  by_cases hstr : ∃ x t, key = .str x t ∧ (es.all fun e => isExactStrKey e.key) = true
  · obtain ⟨x, t, hkt, hs⟩ := hstr
    have := byStr x t hkt hs
    subst hkt
    dsimp only
    rw [if_pos hs]
    exact this
  · by_cases hall : ((key :: (placesWithHash es.size (fun i => es[i]?.map (·.hash)) (k.hash w)).filterMap fun i => es[i]?.map (·.key)).all carriedByValue) = true
    · cases key
      case str x t =>
        have hns : ¬ (es.all fun e => isExactStrKey e.key) = true := fun z => hstr ⟨x, t, rfl, z⟩
        dsimp only
        rw [if_neg hns, if_pos hall]
        exact old
      all_goals
        dsimp only
        rw [if_pos hall]
        exact old
    · cases key
      case str x t =>
        have hns : ¬ (es.all fun e => isExactStrKey e.key) = true := fun z => hstr ⟨x, t, rfl, z⟩
        dsimp only
        rw [if_neg hns, if_neg hall]
        by_cases hone : (((placesWithHash es.size (fun i => es[i]?.map (·.hash)) (k.hash w)).filterMap (fun i => es[i]?.map (·.key))) == [Value.str x t]) = true <;>
        (first | rw [if_pos hone] | rw [if_neg hone]) <;> (first | refine wpAny_bind (wpAny_pure ?_) | refine wpAny_bind (mix_tells hkey hkd hst ?_)) <;> (
          rw [if_neg (by simp)]
          refine wpAny_bind ?_
          refine wpAny_forIn_list _
            (fun rest b s' => s' = s ∧ ∃ i hit, b = (none, hit) ∧ rest = (List.range' i (es.size - i)).filter (fun i => (es[i]?.map (·.hash)) == some (k.hash w)) ∧ i ≤ es.size ∧
              ((hit = none ∧ ∀ j, j < i → ks[j]? ≠ some k) ∨ ∃ j, hit = some j ∧ j < i ∧ ks[j]? = some k)) _ ?_ ?_ _ _
            ⟨rfl, 0, none, rfl, by rw [placesWithHash, List.range_eq_range', Nat.sub_zero], Nat.zero_le _, .inl ⟨rfl, fun _ h => absurd h (Nat.not_lt_zero _)⟩⟩
          · rintro x rest b s' ⟨rfl, i, hit, rfl, hr, hi, hH⟩
            obtain ⟨hix, hxn, hpx, hskip, hrest⟩ := filter_range'_cons _ _ _ _ _ hr.symm
            have hlt : x < es.size := by omega
            have hrest' : rest = (List.range' (x + 1) (es.size - (x + 1))).filter (fun i => (es[i]?.map (·.hash)) == some (k.hash w)) := by rw [hrest]; congr 2; omega
            obtain ⟨k', hk', his, hdp, hhash⟩ := entry x hlt
            have hHx : (hit = none ∧ ∀ j, j < x → ks[j]? ≠ some k) ∨ ∃ j, hit = some j ∧ j < x ∧ ks[j]? = some k := by
              rcases hH with ⟨h0, hno⟩ | ⟨j, h1, hji, hj⟩
              · refine .inl ⟨h0, fun j hjx hj => ?_⟩
                rcases Nat.lt_or_ge j i with h | h
                · exact hno j h hj
                · have := hskip j h hjx
                  rw [haskey j hj] at this
                  exact absurd this (by decide)
              · exact .inr ⟨j, h1, by omega, hj⟩
            have hstay : ¬ k' = k → ((hit = none ∧ ∀ j, j < x + 1 → ks[j]? ≠ some k) ∨ ∃ j, hit = some j ∧ j < x + 1 ∧ ks[j]? = some k) := by
              intro hne
              rcases hHx with ⟨h0, hno⟩ | ⟨j, h1, hjx, hj⟩
              · refine .inl ⟨h0, fun j hjx hj => ?_⟩
                rcases Nat.lt_or_ge j x with h | h
                · exact hno j h hj
                · have hjx' : j = x := by omega
                  subst hjx'
                  rw [hk'] at hj
                  exact hne (Option.some.inj hj)
              · exact .inr ⟨j, h1, by omega, hj⟩
            simp only [Array.getElem?_eq_getElem hlt]
            by_cases hh : (es[x].hash == k.hash w) = true
            · rw [if_pos hh]
              refine wpAny_bind (wpAny_dictEpoch ho hd (wpAny_bind (mix_eq hu his hdp hkey (wpAny_bind (wpAny_dictEpoch ho hd ?_)))))
              show wpAny _ _ (if (ep != ep) = true then _ else _) _ E _
              rw [if_neg (by simp)]
              by_cases hkk : k' = k
              · rw [decide_eq_true hkk]
                subst hkk
                rcases hHx with ⟨rfl, _⟩ | ⟨j, _, hjx, hj⟩
                · first | rw [if_pos rfl] | skip
                  simp only [Option.isSome_none, Bool.false_eq_true, if_false]
                  first | refine wpAny_bind (wpAny_pure ?_) | skip
                  refine wpAny_bind (wpAny_rule ?_)
                  split
                  · exact wpAny_pure (wpAny_pure (hsome x hk'))
                  · exact wpAny_pure ⟨rfl, x + 1, some x, rfl, hrest', hlt, .inr ⟨x, rfl, Nat.lt_succ_self x, hk'⟩⟩
                · exact absurd (nodup_at M.nodup hj hk') (by omega)
              · rw [decide_eq_false hkk]
                simp only [Bool.false_eq_true, if_false]
                refine wpAny_bind (wpAny_rule ?_)
                first | rw [if_neg (by simp)] | skip
                first
                  | exact wpAny_pure ⟨rfl, x + 1, hit, rfl, hrest', hlt, hstay hkk⟩
                  | exact wpAny_bind (wpAny_pure (wpAny_pure ⟨rfl, x + 1, hit, rfl, hrest', hlt, hstay hkk⟩))
            · rw [if_neg hh]
              refine wpAny_pure ⟨rfl, x + 1, hit, rfl, hrest', hlt, hstay ?_⟩
              intro hkk
              rw [hhash, hkk] at hh; simp at hh
          · rintro b s' ⟨rfl, i, hit, rfl, hr, hi, hH⟩
            have hall : ∀ j : Nat, i ≤ j → j < es.size → ¬ ((es[j]?.map (·.hash)) == some (k.hash w)) = true := by
              intro j h1 h2
              exact List.filter_eq_nil_iff.mp hr.symm j (List.mem_range'_1.mpr ⟨h1, by omega⟩)
            rcases hH with ⟨rfl, hno⟩ | ⟨j, rfl, _, hj⟩
            · refine wpAny_pure (hnone (noneOf fun j hjl hj => ?_))
              rcases Nat.lt_or_ge j i with h | h
              · exact hno j h hj
              · exact hall j h hjl (haskey j hj)
            · exact wpAny_pure (hsome j hj))

      all_goals
        dsimp only
        rw [if_neg hall]
        first | rw [if_neg hany] | skip
        refine wp_ite (fun _ => ?_) (fun _ => ?_) <;> (first | refine wpAny_bind (wpAny_pure ?_) | refine wpAny_bind (mix_tells hkey hkd hst ?_)) <;> (
          rw [if_neg (by simp)]
          refine wpAny_bind ?_
          refine wpAny_forIn_list _
            (fun rest b s' => s' = s ∧ ∃ i hit, b = (none, hit) ∧ rest = (List.range' i (es.size - i)).filter (fun i => (es[i]?.map (·.hash)) == some (k.hash w)) ∧ i ≤ es.size ∧
              ((hit = none ∧ ∀ j, j < i → ks[j]? ≠ some k) ∨ ∃ j, hit = some j ∧ j < i ∧ ks[j]? = some k)) _ ?_ ?_ _ _
            ⟨rfl, 0, none, rfl, by rw [placesWithHash, List.range_eq_range', Nat.sub_zero], Nat.zero_le _, .inl ⟨rfl, fun _ h => absurd h (Nat.not_lt_zero _)⟩⟩
          · rintro x rest b s' ⟨rfl, i, hit, rfl, hr, hi, hH⟩
            obtain ⟨hix, hxn, hpx, hskip, hrest⟩ := filter_range'_cons _ _ _ _ _ hr.symm
            have hlt : x < es.size := by omega
            have hrest' : rest = (List.range' (x + 1) (es.size - (x + 1))).filter (fun i => (es[i]?.map (·.hash)) == some (k.hash w)) := by rw [hrest]; congr 2; omega
            obtain ⟨k', hk', his, hdp, hhash⟩ := entry x hlt
            have hHx : (hit = none ∧ ∀ j, j < x → ks[j]? ≠ some k) ∨ ∃ j, hit = some j ∧ j < x ∧ ks[j]? = some k := by
              rcases hH with ⟨h0, hno⟩ | ⟨j, h1, hji, hj⟩
              · refine .inl ⟨h0, fun j hjx hj => ?_⟩
                rcases Nat.lt_or_ge j i with h | h
                · exact hno j h hj
                · have := hskip j h hjx
                  rw [haskey j hj] at this
                  exact absurd this (by decide)
              · exact .inr ⟨j, h1, by omega, hj⟩
            have hstay : ¬ k' = k → ((hit = none ∧ ∀ j, j < x + 1 → ks[j]? ≠ some k) ∨ ∃ j, hit = some j ∧ j < x + 1 ∧ ks[j]? = some k) := by
              intro hne
              rcases hHx with ⟨h0, hno⟩ | ⟨j, h1, hjx, hj⟩
              · refine .inl ⟨h0, fun j hjx hj => ?_⟩
                rcases Nat.lt_or_ge j x with h | h
                · exact hno j h hj
                · have hjx' : j = x := by omega
                  subst hjx'
                  rw [hk'] at hj
                  exact hne (Option.some.inj hj)
              · exact .inr ⟨j, h1, by omega, hj⟩
            simp only [Array.getElem?_eq_getElem hlt]
            by_cases hh : (es[x].hash == k.hash w) = true
            · rw [if_pos hh]
              refine wpAny_bind (wpAny_dictEpoch ho hd (wpAny_bind (mix_eq hu his hdp hkey (wpAny_bind (wpAny_dictEpoch ho hd ?_)))))
              show wpAny _ _ (if (ep != ep) = true then _ else _) _ E _
              rw [if_neg (by simp)]
              by_cases hkk : k' = k
              · rw [decide_eq_true hkk]
                subst hkk
                rcases hHx with ⟨rfl, _⟩ | ⟨j, _, hjx, hj⟩
                · first | rw [if_pos rfl] | skip
                  simp only [Option.isSome_none, Bool.false_eq_true, if_false]
                  first | refine wpAny_bind (wpAny_pure ?_) | skip
                  refine wpAny_bind (wpAny_rule ?_)
                  split
                  · exact wpAny_pure (wpAny_pure (hsome x hk'))
                  · exact wpAny_pure ⟨rfl, x + 1, some x, rfl, hrest', hlt, .inr ⟨x, rfl, Nat.lt_succ_self x, hk'⟩⟩
                · exact absurd (nodup_at M.nodup hj hk') (by omega)
              · rw [decide_eq_false hkk]
                simp only [Bool.false_eq_true, if_false]
                refine wpAny_bind (wpAny_rule ?_)
                first | rw [if_neg (by simp)] | skip
                first
                  | exact wpAny_pure ⟨rfl, x + 1, hit, rfl, hrest', hlt, hstay hkk⟩
                  | exact wpAny_bind (wpAny_pure (wpAny_pure ⟨rfl, x + 1, hit, rfl, hrest', hlt, hstay hkk⟩))
            · rw [if_neg hh]
              refine wpAny_pure ⟨rfl, x + 1, hit, rfl, hrest', hlt, hstay ?_⟩
              intro hkk
              rw [hhash, hkk] at hh; simp at hh
          · rintro b s' ⟨rfl, i, hit, rfl, hr, hi, hH⟩
            have hall : ∀ j : Nat, i ≤ j → j < es.size → ¬ ((es[j]?.map (·.hash)) == some (k.hash w)) = true := by
              intro j h1 h2
              exact List.filter_eq_nil_iff.mp hr.symm j (List.mem_range'_1.mpr ⟨h1, by omega⟩)
            rcases hH with ⟨rfl, hno⟩ | ⟨j, rfl, _, hj⟩
            · refine wpAny_pure (hnone (noneOf fun j hjl hj => ?_))
              rcases Nat.lt_or_ge j i with h | h
              · exact hno j h hj
              · exact hall j h hjl (haskey j hj)
            · exact wpAny_pure (hsome j hj))

end
end DL
end
section
set_option Elab.async false
set_option linter.all false
set_option autoImplicit false
set_option maxRecDepth 100000
/-! The data layer, part n: dicts of data: d[k] = v, d.get(k, x). -/
namespace DL
open PySem PySem.Spec PyProof.Rows L2

section
variable {prog : Program} {w : World} {A : Around} {E : Value → Shared → Prop} {s : Shared}
theorem mixSet {d : Addr} {o : Obj} {es : Array DictEntry} {ep : Nat} {ks : List NestedKey} {k : NestedKey} {key v : Value} {Q : Unit → Shared → Prop} (hu : A.units + 8 < cLine) (hkey : NestedIs s.heap k key) (hkd : k.depth ≤ 8)
    (ho : s.heap.get? d = some o) (hx : o.ExactDict) (hd : o.data = .dict es ep) (M : KeysM w s.heap es ks) (hz : es.size ≤ sizeLine)
    (hQ : ∀ h' es', (∃ o' ep', h'.get? d = some o' ∧ o'.ExactDict ∧ o'.data = .dict es' ep') → Heap.SameBut d s.heap h' →
      ((k ∉ ks ∧ es' = es.push ⟨k.hash w, key, v⟩) ∨ ∃ j, ks[j]? = some k ∧ es' = es.modify j (fun e => { e with val := v })) → Q () { s with heap := h', toks := s.toks + k.draws }) : wpAny (model prog w) A (dictSet d key v) Q E s := by
  unfold dictSet
  try with_reducible refine wpAny_holding ?_
  refine wpAny_bind (pyHash_key k key A s _ hkey (by omega) ?_)
  unfold dictSetHashed
  try with_reducible refine wpAny_holding ?_
  refine wpAny_bind (mixFind (s := { s with toks := s.toks + k.draws }) hu hkey hkd ho hd M ?_ ?_)
  · intro hno
    exact wpAny_bind (wpAny_rule (wpAny_updateDictKeys (hz := hz) (s := { s with toks := s.toks + k.draws }) ho hd (hQ _ _ ⟨_, ep + 1, Heap.get?_update_self _ ho (Obj.isFreed_of_dict (Obj.data_mapDictKeys hd _)),
      hx.mapDictKeys _, Obj.data_mapDictKeys hd _⟩ (Heap.SameBut.update ..) (.inl ⟨hno, rfl⟩))))
  · intro j hj
    exact wpAny_bind (wpAny_rule (wpAny_bind (wpAny_updateDict (s := { s with toks := s.toks + k.draws }) ho hd (wpAny_point (hQ _ _ ⟨_, ep, Heap.get?_update_self _ ho (Obj.isFreed_of_dict (Obj.data_mapDict hd _)),
      hx.mapDict _, Obj.data_mapDict hd _⟩ (Heap.SameBut.update ..) (.inr ⟨j, hj, rfl⟩))))))
theorem mixGet {d : Addr} {o : Obj} {es : Array DictEntry} {ep : Nat} {ks : List NestedKey} {k : NestedKey} {key : Value} {Q : Option Value → Shared → Prop} (hu : A.units + 8 < cLine) (hkey : NestedIs s.heap k key) (hkd : k.depth ≤ 8)
    (ho : s.heap.get? d = some o) (hd : o.data = .dict es ep) (M : KeysM w s.heap es ks) (hnone : k ∉ ks → Q none { s with toks := s.toks + k.draws }) (hsome : ∀ j : Nat, ks[j]? = some k → Q (es[j]?.map (·.val)) { s with toks := s.toks + k.draws }) :
    wpAny (model prog w) A (dictGet d key) Q E s := by
  unfold dictGet
  try with_reducible refine wpAny_holding ?_
  refine wpAny_bind (pyHash_key k key A s _ hkey (by omega) (wpAny_bind (mixFind (s := { s with toks := s.toks + k.draws }) hu hkey hkd ho hd M ?_ ?_)))
  · intro hno
    exact wpAny_pure (hnone hno)
  · intro j hj
    exact wpAny_bind (wpAny_dictEntries (s := { s with toks := s.toks + k.draws }) ho hd (wpAny_pure (hsome j hj)))
end

/-! ### keys as data -/
mutual
theorem nk_depth : ∀ {d : PyData}, keyOk d = true → (nkOf d).depth = d.depth
  | .none, _ => rfl
  | .int _, _ => by rw [PyData.depth]; rfl
  | .str _, _ => by rw [PyData.depth]; rfl
  | .tuple xs, h => by
    have e := nks_depth (show keyOk.keyOks xs = true from h)
    show NestedKey.depth (.tup (nkOf.nksOf xs)) = _
    rw [NestedKey.depth, PyData.depth, e]
  | .bool _, h => by cases h
  | .list _, h => by cases h
  | .dict _, h => by cases h
theorem nks_depth : ∀ {xs : List PyData}, keyOk.keyOks xs = true → NestedKey.depthAll (nkOf.nksOf xs) = PyData.depthAll xs
  | [], _ => by rw [PyData.depthAll]; rfl
  | x :: r, h => by
    have h' : (keyOk x && keyOk.keyOks r) = true := h
    rw [Bool.and_eq_true] at h'
    show NestedKey.depthAll (nkOf x :: nkOf.nksOf r) = _
    rw [NestedKey.depthAll, PyData.depthAll, nk_depth h'.1, nks_depth h'.2]
end
mutual
theorem nk_eq : ∀ {a b : PyData}, keyOk a = true → keyOk b = true → PyData.eqv a b = NestedKey.beq (nkOf a) (nkOf b)
  | .none, b, _, hb => by
    cases b with
    | bool _ => cases hb
    | list _ => cases hb
    | dict _ => cases hb
    | _ => rfl
  | .int i, b, _, hb => by
    cases b with
    | bool _ => cases hb
    | list _ => cases hb
    | dict _ => cases hb
    | int j => show (i == j) = decide (i = j); rfl
    | _ => rfl
  | .str x, b, _, hb => by
    cases b with
    | bool _ => cases hb
    | list _ => cases hb
    | dict _ => cases hb
    | str y => show (x == y) = decide (x = y); by_cases z : x = y; (subst z; simp); (rw [decide_eq_false z]; exact beq_false_of_ne z)
    | _ => rfl
  | .tuple xs, b, ha, hb => by
    cases b with
    | bool _ => cases hb
    | list _ => cases hb
    | dict _ => cases hb
    | tuple ys =>
      have e := nks_eq (show keyOk.keyOks xs = true from ha) (show keyOk.keyOks ys = true from hb)
      show _ = NestedKey.beq (.tup (nkOf.nksOf xs)) (.tup (nkOf.nksOf ys))
      rw [NestedKey.beq, PyData.eqv, e]
    | _ => rfl
  | .bool _, _, h, _ => by cases h
  | .list _, _, h, _ => by cases h
  | .dict _, _, h, _ => by cases h
theorem nks_eq : ∀ {xs ys : List PyData}, keyOk.keyOks xs = true → keyOk.keyOks ys = true → PyData.eqvAll xs ys = NestedKey.beqAll (nkOf.nksOf xs) (nkOf.nksOf ys)
  | [], [], _, _ => rfl
  | [], _ :: _, _, _ => rfl
  | _ :: _, [], _, _ => rfl
  | x :: xs, y :: ys, h, h' => by
    have h1 : (keyOk x && keyOk.keyOks xs) = true := h
    have h2 : (keyOk y && keyOk.keyOks ys) = true := h'
    rw [Bool.and_eq_true] at h1 h2
    show _ = NestedKey.beqAll (nkOf x :: nkOf.nksOf xs) (nkOf y :: nkOf.nksOf ys)
    rw [PyData.eqvAll, NestedKey.beqAll, nk_eq h1.1 h2.1, nks_eq h1.2 h2.2]
end
theorem ok8 {d : PyData} (h : keyOk8 d = true) : keyOk d = true ∧ (nkOf d).depth ≤ 8 := by
  have h' : (keyOk d && decide (d.depth ≤ 8)) = true := h
  rw [Bool.and_eq_true, decide_eq_true_eq] at h'
  exact ⟨h'.1, by rw [nk_depth h'.1]; exact h'.2⟩
theorem eqv_nk {a b : PyData} (ha : keyOk8 a = true) (hb : keyOk8 b = true) : PyData.eqv a b = decide (nkOf a = nkOf b) := by
  rw [nk_eq (ok8 ha).1 (ok8 hb).1, NestedKey.decide_eq]
section
variable {X : Cx} {pins : List (Addr × Obj)} {σ : L2.St} {H : Hp} {s : Shared} {L : Addr → Prop}
mutual
theorem nested_rep (I : Inv X pins σ H s) : ∀ {v : V} {d : PyData} {u : Value}, Rp X.K L H v d → keyOk d = true → RelV v u → NestedIs s.heap (nkOf d) u
  | _, _, _, .non, _, r => by cases r; exact .none
  | _, _, _, .int i, _, ⟨t, e⟩ => by subst e; exact .int i t
  | _, _, _, .str x, _, ⟨t, e⟩ => by subst e; exact .text x t
  | _, _, _, .tup e rr, h, r => by
    cases r
    obtain ⟨its, rv, ⟨o, e1, e2, n, e3⟩, hz⟩ := I.tuple e.sq
    exact .tup e1 e2 e3 (by simpa using nested_reps I rr h rv)
  | _, _, _, .bl _, h, _ => by cases h
  | _, _, _, .lst _ _ _, h, _ => by cases h
theorem nested_reps (I : Inv X pins σ H s) : ∀ {vs : List V} {ds : List PyData} {us : List Value}, RpAll X.K L H vs ds → keyOk.keyOks ds = true → Vals vs us → NestedAll s.heap (nkOf.nksOf ds) us
  | _, _, _, .nil, _, .nil => .nil
  | _, _, _, .cons (d := d) r rs, h, .cons q qs => by
    have h1 : (keyOk d && keyOk.keyOks _) = true := h
    rw [Bool.and_eq_true] at h1
    exact .cons (nested_rep I r h1.1 q) (nested_reps I rs h1.2 qs)
end
/-- a data dict in the heap -/
theorem dic_open {a : Addr} {kvs : List (PyData × PyData)} {es : List (Int × V × V)} (I : Inv X pins σ H s) (hD : H a = some (dicO a es)) (R : DicR X.K X.w L H kvs es) (hk : ∀ p ∈ kvs, keyOk8 p.1 = true) (nd : (kvs.map (·.1)).Pairwise fun a b => PyData.eqv a b = false) :
    (a == sysModules) = false ∧ es.length ≤ sizeLine ∧ ∃ (o : Obj) (ents : Array DictEntry) (ep : Nat), s.heap.get? a = some o ∧ o.ExactDict ∧ o.data = .dict ents ep ∧ KeysM X.w s.heap ents (kvs.map fun p => nkOf p.1) ∧ Paired (fun (p : Int × V × V) (e : DictEntry) => e.hash = p.1 ∧ RelV p.2.1 e.key ∧ RelV p.2.2 e.val) es ents.toList := by
  obtain ⟨⟨h1, h2, o, ents, ep, e1, e2, e3, e4⟩, _⟩ := I.hok a _ hD
  refine ⟨h1, h2, o, ents, ep, e1, e2, e3, ⟨?_, fun j k hj => ?_, ?_⟩, e4⟩
  · rw [List.length_map, R.length, e4.length, Array.length_toList]
  · rw [List.getElem?_map, Option.map_eq_some_iff] at hj
    obtain ⟨p, hp, rfl⟩ := hj
    have at2 : ∀ {kvs : List (PyData × PyData)} {es : List (Int × V × V)} {ents : List DictEntry} {j : Nat} {p : PyData × PyData}, DicR X.K X.w L H kvs es → Paired (fun (p : Int × V × V) (e : DictEntry) => e.hash = p.1 ∧ RelV p.2.1 e.key ∧ RelV p.2.2 e.val) es ents → kvs[j]? = some p →
        ∃ e v, ents[j]? = some e ∧ Rp X.K L H v p.1 ∧ RelV v e.key ∧ e.hash = (nkOf p.1).hash X.w := by
      intro kvs es ents j p R
      induction R generalizing ents j with
      | nil => intro _ h; simp at h
      | cons q _ ih =>
        intro P hj
        cases P with
        | cons z zs =>
          cases j with
          | zero => simp at hj; subst hj; exact ⟨_, _, rfl, q.2.1, z.2.1, z.1.trans q.1⟩
          | succ j =>
            obtain ⟨e, v, r⟩ := ih zs (by simpa using hj)
            exact ⟨e, v, by simpa using r⟩
    obtain ⟨e, v, q1, q2, q3, q4⟩ := at2 R e4 hp
    have ok := ok8 (hk p (List.mem_of_getElem? hp))
    exact ⟨e, by rw [← Array.getElem?_toList]; exact q1, nested_rep I q2 ok.1 q3, ok.2, q4⟩
  · show (kvs.map (nkOf ∘ (·.1))).Nodup
    rw [← List.map_map]
    refine List.Pairwise.map _ (R := fun a b => PyData.eqv a b = false ∧ keyOk8 a = true ∧ keyOk8 b = true) (fun a b ⟨h, ha, hb⟩ e => ?_) ?_
    · rw [eqv_nk ha hb, decide_eq_true e] at h; cases h
    · have hk' : ∀ a ∈ kvs.map (·.1), keyOk8 a = true := fun a ha => by
        obtain ⟨p, hp, rfl⟩ := List.mem_map.mp ha
        exact hk p hp
      exact List.Pairwise.imp_of_mem (fun ha hb h => ⟨h, hk' _ ha, hk' _ hb⟩) nd
end
end DL
end
section
set_option Elab.async false
set_option linter.all false
set_option autoImplicit false
set_option maxRecDepth 100000
/-! The data layer, part o: dicts of data under the hand layer. -/
namespace DL
open PySem PySem.Spec PyProof.Rows L2

theorem Paired.modifyP {α β : Type} {F : α → β → Prop} {f : α → α} {g : β → β} : ∀ {l : List α} {m : List β} {j : Nat}, Paired F l m → (∀ a b, F a b → l[j]? = some a → F (f a) (g b)) → Paired F (l.modify j f) (m.modify j g)
  | _, _, _, .nil, _ => by simp only [List.modify_nil]; exact .nil
  | _, _, 0, .cons r rs, h => by simp only [List.modify_zero_cons]; exact .cons (h _ _ r rfl) rs
  | _, _, j + 1, .cons r rs, h => by
    simp only [List.modify_succ_cons]
    exact .cons r (Paired.modifyP rs fun a b q e => h a b q (by simpa using e))
theorem modify_of_map {α : Type} {f g : α → α} : ∀ {l : List α} {j : Nat}, (∀ i a, l[i]? = some a → f a = if i = j then g a else a) → l.map f = l.modify j g
  | [], j, _ => by simp
  | a :: l, 0, h => by
    rw [List.map_cons, List.modify_zero_cons, h 0 a rfl, if_pos rfl]
    congr 1
    conv => rhs; rw [← List.map_id l]
    refine List.map_congr_left fun b hb => ?_
    obtain ⟨i, hi⟩ := List.mem_iff_getElem?.mp hb
    rw [h (i + 1) b (by simpa using hi), if_neg (by omega)]
    rfl
  | a :: l, j + 1, h => by
    rw [List.map_cons, List.modify_succ_cons, h 0 a rfl, if_neg (by omega)]
    congr 1
    exact modify_of_map fun i b hb => by
      rw [h (i + 1) b (by simpa using hb)]
      by_cases z : i = j
      · rw [if_pos z, if_pos (by omega)]
      · rw [if_neg z, if_neg (by omega)]
section
variable {X : Cx} {pins : List (Addr × Obj)} {σ : L2.St} {H : Hp} {s : Shared} {L : Addr → Prop}
theorem dicO_ok {P : Program} {w : World} {H' : Hp} {h' : Heap} {a : Addr} {es : List (Int × V × V)} (h1 : (a == sysModules) = false) (h2 : es.length ≤ sizeLine) {o : Obj} {ents : Array DictEntry} {ep : Nat} (e1 : h'.get? a = some o) (e2 : o.ExactDict) (e3 : o.data = .dict ents ep)
    (e4 : Paired (fun (p : Int × V × V) (e : DictEntry) => e.hash = p.1 ∧ RelV p.2.1 e.key ∧ RelV p.2.2 e.val) es ents.toList) : ObjOk P w H' h' a (dicO a es) :=
  ⟨⟨h1, h2, o, ents, ep, e1, e2, e3, e4⟩, ⟨o, e1⟩, fun g1 g2 ⟨q1, q2, o', ents', ep', z1, z2, z3, z4⟩ k => ⟨q1, q2, o', ents', ep', k _ z1, z2, z3, z4⟩⟩
/-- the keys of a data dict -/
theorem keys_at {kvs : List (PyData × PyData)} {dk : PyData} (hk : ∀ p ∈ kvs, keyOk8 p.1 = true) (ok : keyOk8 dk = true) : nkOf dk ∈ kvs.map (fun p => nkOf p.1) ↔ (kvs.any fun p => PyData.eqv p.1 dk) = true := by
  rw [List.any_eq_true, List.mem_map]
  constructor
  · rintro ⟨p, hp, e⟩
    exact ⟨p, hp, by rw [eqv_nk (hk p hp) ok]; exact decide_eq_true e⟩
  · rintro ⟨p, hp, e⟩
    rw [eqv_nk (hk p hp) ok] at e
    exact ⟨p, hp, of_decide_eq_true e⟩
theorem d_set {A : Around} {E : Value → Shared → Prop} {D : Addr} {kvs : List (PyData × PyData)} {es : List (Int × V × V)} {dk dv : PyData} {k v : V} {u r : Value} {Q : Unit → Shared → Prop} (hu : A.units + 8 < cLine) (I : Inv X pins σ H s) (hD : H D = some (dicO D es)) (R : DicR X.K X.w L H kvs es)
    (hk : ∀ p ∈ kvs, keyOk8 p.1 = true) (nd : (kvs.map (·.1)).Pairwise fun a b => PyData.eqv a b = false) (hz : kvs.length < sizeLine) (rk : Rp X.K L H k dk) (ok : keyOk8 dk = true) (ru : RelV k u) (rd : Rp X.K L H v dv) (rv : RelV v r)
    (h : ∀ s' es', Inv X pins σ (upd H D (dicO D es')) s' → DicR X.K X.w L H (dput kvs dk dv) es' → Q () s') : wpAny (model X.prog X.w) A (dictSet D u r) Q E s := by
  obtain ⟨h1, h2, o, ents, ep, e1, e2, e3, M, P⟩ := dic_open I hD R hk nd
  have ok' := ok8 ok
  have hl : ents.size = kvs.length := by rw [M.len, List.length_map]
  have hes : es.length = kvs.length := R.length.symm
  refine mixSet hu (nested_rep I rk ok'.1 ru) ok'.2 e1 e2 e3 M (by omega) fun h' ents' ⟨o', ep', q1, q2, q3⟩ sb hc => ?_
  rcases hc with ⟨hno, rfl⟩ | ⟨j, hj, rfl⟩
  · have ha : ¬ (kvs.any fun p => PyData.eqv p.1 dk) = true := fun z => hno ((keys_at hk ok).mpr z)
    refine h _ (es ++ [((nkOf dk).hash X.w, k, v)]) (d_write I (by rw [hD]; exact True.intro) sb ⟨o', q1⟩ (dicO_ok h1 (by rw [List.length_append]; show es.length + 1 ≤ _; omega) q1 q2 q3 ?_)) ?_
    · rw [Array.toList_push]
      exact P.snoc ⟨rfl, ru, rv⟩
    · unfold dput
      rw [if_neg ha]
      exact Paired.snoc R ⟨rfl, rk, rd⟩
  · have ha : (kvs.any fun p => PyData.eqv p.1 dk) = true := (keys_at hk ok).mp (List.mem_of_getElem? hj)
    refine h _ (es.modify j fun e => (e.1, e.2.1, v)) (d_write I (by rw [hD]; exact True.intro) sb ⟨o', q1⟩ (dicO_ok h1 (by rw [List.length_modify]; exact h2) q1 q2 q3 ?_)) ?_
    · rw [Array.toList_modify]
      exact Paired.modifyP P fun a b q _ => ⟨q.1, q.2.1, rv⟩
    · unfold dput
      rw [if_pos ha]
      rw [modify_of_map (g := fun p => (p.1, dv)) (j := j) fun i p hp => ?_]
      · exact Paired.modifyP R fun a b q _ => ⟨q.1, q.2.1, rd⟩
      · have hi : (kvs.map fun p => nkOf p.1)[i]? = some (nkOf p.1) := by rw [List.getElem?_map, hp]; rfl
        rw [eqv_nk (hk p (List.mem_of_getElem? hp)) ok]
        by_cases z : i = j
        · subst z
          rw [hj] at hi
          rw [if_pos rfl, if_pos (decide_eq_true (Option.some.inj hi).symm)]
        · rw [if_neg z, if_neg]
          intro y
          have y := of_decide_eq_true y
          exact z (nodup_at M.nodup (hi.trans (by rw [y])) hj)
/-- d.get(k, x) -/
theorem d_get {A : Around} {E : Value → Shared → Prop} {a : Addr} {kvs : List (PyData × PyData)} {es : List (Int × V × V)} {dk : PyData} {k z : V} {u r : Value} {Q : Value → Shared → Prop} (hu : A.units + 9 < cLine) (I : Inv X pins σ H s) (hD : H a = some (dicO a es)) (R : DicR X.K X.w L H kvs es)
    (hk : ∀ p ∈ kvs, keyOk8 p.1 = true) (nd : (kvs.map (·.1)).Pairwise fun a b => PyData.eqv a b = false) (rk : Rp X.K L H k dk) (ok : keyOk8 dk = true) (ru : RelV k u)
    (h1 : ∀ s' dv v w', dgetD kvs dk = some dv → Inv X pins σ H s' → Rp X.K L H v dv → RelV v w' → Q w' s') (h2 : ∀ s', dgetD kvs dk = none → Inv X pins σ H s' → Q r s') : wpAny (model X.prog X.w) A (call (.builtin "dict.get") [.ref a, u, r]) Q E s := by
  obtain ⟨y1, y2, o, ents, ep, e1, e2, e3, M, P⟩ := dic_open I hD R hk nd
  have ok' := ok8 ok
  refine call_meetsIn PySem.F.slot_dict_get (⟨o, e1, e2.1⟩ : s.TypeIs (.ref a) "dict") PySem.F.entry_dict_get (PySem.F.args_dict_get_3 _ _ _) (S := fun A' R' s' => A' = A ∧ s' = s ∧ ∀ w' s2, Q w' s2 → R' (.ok (.ret w')) s2) (.of_wp fun A' R' s' hS => ?_) ⟨rfl, rfl, fun w' s2 q => q⟩
  obtain ⟨rfl, rfl, hq⟩ := hS
  show wpAny _ _ (dictGet a u >>= _) _ _ _
  have fk : ∀ {p : PyData × PyData}, p ∈ kvs → (PyData.eqv p.1 dk = true ↔ nkOf p.1 = nkOf dk) := fun {p} hp => by
    rw [eqv_nk (hk p hp) ok]; exact decide_eq_true_iff
  refine wpAny_bind (mixGet (by simp only [Around.in1_units]; omega) (nested_rep I rk ok'.1 ru) ok'.2 e1 e3 M (fun hno => ?_) fun j hj => ?_)
  · show wpAny _ _ (Builtin.Dict.missed a u >>= _) _ _ _
    refine wpAny_bind (wpAny_missed_other y1 (wpAny_pure ⟨r, rfl, hq _ _ (h2 _ ?_ (I.tok _))⟩))
    unfold dgetD
    rw [Option.map_eq_none_iff, List.find?_eq_none]
    intro p hp hc
    exact hno (List.mem_map.mpr ⟨p, hp, (fk hp).mp hc⟩)
  · rw [List.getElem?_map, Option.map_eq_some_iff] at hj
    obtain ⟨p, hp, ep2⟩ := hj
    have hpm := List.mem_of_getElem? hp
    have at2 : ∀ {kvs : List (PyData × PyData)} {es : List (Int × V × V)} {ents : List DictEntry} {j : Nat} {p : PyData × PyData}, DicR X.K X.w L H kvs es → Paired (fun (p : Int × V × V) (e : DictEntry) => e.hash = p.1 ∧ RelV p.2.1 e.key ∧ RelV p.2.2 e.val) es ents → kvs[j]? = some p →
        ∃ e v, ents[j]? = some e ∧ Rp X.K L H v p.2 ∧ RelV v e.val := by
      intro kvs es ents j p R
      induction R generalizing ents j with
      | nil => intro _ h; simp at h
      | cons q _ ih =>
        intro P hj
        cases P with
        | cons z zs =>
          cases j with
          | zero => simp at hj; subst hj; exact ⟨_, _, rfl, q.2.2, z.2.2⟩
          | succ j =>
            obtain ⟨e, v, r⟩ := ih zs (by simpa using hj)
            exact ⟨e, v, by simpa using r⟩
    obtain ⟨e, v, q1, q2, q3⟩ := at2 R P hp
    rw [Array.getElem?_toList] at q1
    rw [q1]
    refine wpAny_pure ⟨e.val, rfl, hq _ _ (h1 _ p.2 v _ ?_ (I.tok _) q2 q3)⟩
    unfold dgetD
    have : kvs.find? (fun p => PyData.eqv p.1 dk) = some p := by
      rw [List.find?_eq_some_iff_getElem]
      refine ⟨(fk hpm).mpr ep2, j, (List.getElem?_eq_some_iff.mp hp).1, (List.getElem?_eq_some_iff.mp hp).2, fun i hi => ?_⟩
      have hil : i < kvs.length := Nat.lt_trans hi (List.getElem?_eq_some_iff.mp hp).1
      cases hc : PyData.eqv kvs[i].1 dk with
      | false => rfl
      | true =>
        have hn := (fk (List.getElem_mem hil)).mp hc
        have h3 : (kvs.map fun p => nkOf p.1)[i]? = some (nkOf dk) := by rw [List.getElem?_map, List.getElem?_eq_getElem hil, ← hn]; rfl
        have h4 : (kvs.map fun p => nkOf p.1)[j]? = some (nkOf dk) := by rw [List.getElem?_map, hp, ← ep2]; rfl
        exact absurd (nodup_at M.nodup h3 h4) (by omega)
    rw [this]; rfl
end
end DL
end
section
set_option Elab.async false
set_option linter.all false
set_option autoImplicit false
set_option maxRecDepth 100000
/-! The data layer, part p: dict comprehensions of one clause and of two. -/
namespace DL
open PySem PySem.Spec PyProof.Rows L2

abbrev testsOf (ifs : List Expr) (env : Env) : Sem Bool := forIn ifs true fun c r => if r = true then do let ok ← isTrue c env (eval c env); pure (ForInStep.yield ok) else pure (ForInStep.yield r)
theorem turnD_out (kx vx t0 i0 t1 i1 : Expr) (ifs0 ifs1 : List Expr) (scope : Scope) (pos : Pos) (it : Value) (D : Addr) (env : Env) :
    compTurn (.DictComp kx vx [⟨t0, i0, ifs0, 0⟩, ⟨t1, i1, ifs1, 0⟩] scope pos) 0 it (.ref D) env = (do
      standAt i0.pos
      match ← pyNext it with
      | none => pure (.done .next)
      | some v =>
        letOwnedTupleGo t0 it v
        assign t0 env v
        let mut ok := true
        for c in ifs0 do
          if ok then ok ← isTrue c env (eval c env)
        if ok then
          let x ← eval i1 env
          standAt i1.pos
          let x ← foldedSetIterable i1 env x
          let _ ← runOwn (.compStart (.DictComp kx vx [⟨t0, i0, ifs0, 0⟩, ⟨t1, i1, ifs1, 0⟩] scope pos) 1 (← holding [x] (pyIter x)) (.ref D) env) env
        again (.compLoop (.DictComp kx vx [⟨t0, i0, ifs0, 0⟩, ⟨t1, i1, ifs1, 0⟩] scope pos) 0 it (.ref D) env)) := by rfl
theorem turnD_in (kx vx t0 i0 t1 i1 : Expr) (ifs0 ifs1 : List Expr) (scope : Scope) (pos : Pos) (it : Value) (D : Addr) (env : Env) :
    compTurn (.DictComp kx vx [⟨t0, i0, ifs0, 0⟩, ⟨t1, i1, ifs1, 0⟩] scope pos) 1 it (.ref D) env = (do
      standAt i1.pos
      match ← pyNext it with
      | none => pure (.done .next)
      | some v =>
        letOwnedTupleGo t1 it v
        assign t1 env v
        let mut ok := true
        for c in ifs1 do
          if ok then ok ← isTrue c env (eval c env)
        if ok then
          (do
            let kv ← eval kx env
            let vv ← holding [kv] (eval vx env)
            standAt { kx.pos with endLine := vx.pos.endLine, endCol := vx.pos.endCol }
            holding [kv, vv] (dictSet D kv vv))
        again (.compLoop (.DictComp kx vx [⟨t0, i0, ifs0, 0⟩, ⟨t1, i1, ifs1, 0⟩] scope pos) 1 it (.ref D) env)) := by rfl
section
variable {prog : Program} {w : World} {A : Around} {R : Result → Shared → Prop} {s : Shared} {kx vx t0 i0 t1 i1 : Expr} {ifs0 ifs1 : List Expr} {scope : Scope} {pos : Pos} {it : Value} {D : Addr} {env : Env}
abbrev NE (prog : Program) (w : World) (A : Around) (env : Env) (R : Result → Shared → Prop) : Value → Shared → Prop := notedBy (model prog w) A env fun e s' => R (.error e) s'
/-- a turn of a clause's loop, what follows the tests apart -/
def TurnP (prog : Program) (w : World) (A : Around) (R : Result → Shared → Prop) (tg : Expr) (ifs : List Expr) (it : Value) (env : Env) (pay : (Shared → Prop) → Shared → Prop) (P : Shared → Prop) (s : Shared) : Prop :=
  wpAny (model prog w) A (pyNext it) (fun r s₁ => match r with
      | none => R (.ok .next) s₁
      | some v => wpAny (model prog w) A (letOwnedTupleGo tg it v) (fun _ s₁' => wpAny (model prog w) A (assign tg env v) (fun _ s₂ =>
          wpAny (model prog w) A (testsOf ifs env) (fun ok s₃ => if ok = true then pay P s₃ else P s₃) (NE prog w A env R) s₂) (NE prog w A env R) s₁') (NE prog w A env R) s₁) (NE prog w A env R) s
def payK (prog : Program) (w : World) (A : Around) (R : Result → Shared → Prop) (kx vx : Expr) (D : Addr) (env : Env) (P : Shared → Prop) (s : Shared) : Prop :=
  wpAny (model prog w) A (eval kx env) (fun kv s₄ => wpAny (model prog w) A (eval vx env) (fun vv s₅ => wpAny (model prog w) A (dictSet D kv vv) (fun _ s₆ => P s₆) (NE prog w A env R) s₅) (NE prog w A env R) s₄) (NE prog w A env R) s
def payI (prog : Program) (w : World) (A : Around) (R : Result → Shared → Prop) (i1 ce : Expr) (D : Addr) (env : Env) (P : Shared → Prop) (s : Shared) : Prop :=
  wpAny (model prog w) A (eval i1 env) (fun x s₄ => wpAny (model prog w) A (pyIter x) (fun it1 s₅ =>
    codeAny (model prog w) A (.compStart ce 1 it1 (.ref D) env) (fun r s' => match r with
      | .ok _ => P s'
      | .error _ => False) s₅) (NE prog w A env R) s₄) (NE prog w A env R) s
theorem loopD1 (I : Nat → Shared → Prop) (turn : ∀ n s, I n s → TurnP prog w A R t0 ifs0 it env (payK prog w A R kx vx D env) (fun s => ∃ m, m < n ∧ I m s) s) (n : Nat) (h : I n s) :
    codeAny (model prog w) A (.compLoop (.DictComp kx vx [⟨t0, i0, ifs0, 0⟩] scope pos) 0 it (.ref D) env) R s := compLoop_anyD I turn n h
theorem loopD_out (hs : ∀ x, foldedSetIterable i1 env x = pure x) (I : Nat → Shared → Prop) (turn : ∀ n s, I n s → TurnP prog w A R t0 ifs0 it env (payI prog w A R i1 (.DictComp kx vx [⟨t0, i0, ifs0, 0⟩, ⟨t1, i1, ifs1, 0⟩] scope pos) D env) (fun s => ∃ m, m < n ∧ I m s) s) (n : Nat) (h : I n s) :
    codeAny (model prog w) A (.compLoop (.DictComp kx vx [⟨t0, i0, ifs0, 0⟩, ⟨t1, i1, ifs1, 0⟩] scope pos) 0 it (.ref D) env) R s := by
  refine codeAny_loop rfl I (fun n s hI => ?_) n h
  show wpAny _ A ((compTurn (.DictComp kx vx [⟨t0, i0, ifs0, 0⟩, ⟨t1, i1, ifs1, 0⟩] scope pos) 0 it (.ref D) env).onRaise (fun x => do noteFrame x env; theTreesLotGoes x)) _ _ s
  refine wpAny_noted ?_
  rw [turnD_out]
  refine wpAny_bind (wpAny_standAt (wpAny_bind (wpAny_mono (turn n s hI) (fun r s₁ h₁ => ?_) fun _ _ h' => h')))
  cases r with
  | none => exact wpAny_pure h₁
  | some v =>
    refine wpAny_bind (wpAny_mono h₁ (fun _ s₁' h₁' => ?_) fun _ _ h' => h')
    refine wpAny_bind (wpAny_mono h₁' (fun _ s₂ h₂ => wpAny_bind (wpAny_mono h₂ (fun ok s₃ h₃ => ?_) fun _ _ h' => h')) fun _ _ h' => h')
    cases ok with
    | false => exact wpAny_pure ⟨rfl, h₃⟩
    | true =>
      refine wpAny_bind (wpAny_mono h₃ (fun x s₄ h₄ => ?_) fun _ _ h' => h')
      refine wpAny_bind (wpAny_standAt (wpAny_bind (wpAny_of_eq (hs x) (wpAny_bind (wpAny_holding (wpAny_mono h₄ (fun it1 s₅ h₅ => ?_) fun _ _ h' => h'))))))
      refine wpAny_bind (wpAny_runOwn ?_)
      rw [Around.mark_none]
      refine codeAny_mono h₅ fun r s' hr => ?_
      cases r with
      | ok f =>
        first
          | exact wpAny_pure ⟨rfl, hr⟩
          | exact wpAny_bind (wpAny_pure (wpAny_pure ⟨rfl, hr⟩))
      | error e => exact hr.elim
theorem loopD_in (I : Nat → Shared → Prop) (turn : ∀ n s, I n s → TurnP prog w A R t1 ifs1 it env (payK prog w A R kx vx D env) (fun s => ∃ m, m < n ∧ I m s) s) (n : Nat) (h : I n s) :
    codeAny (model prog w) A (.compLoop (.DictComp kx vx [⟨t0, i0, ifs0, 0⟩, ⟨t1, i1, ifs1, 0⟩] scope pos) 1 it (.ref D) env) R s := by
  refine codeAny_loop rfl I (fun n s hI => ?_) n h
  show wpAny _ A ((compTurn (.DictComp kx vx [⟨t0, i0, ifs0, 0⟩, ⟨t1, i1, ifs1, 0⟩] scope pos) 1 it (.ref D) env).onRaise (fun x => do noteFrame x env; theTreesLotGoes x)) _ _ s
  refine wpAny_noted ?_
  rw [turnD_in]
  refine wpAny_bind (wpAny_standAt (wpAny_bind (wpAny_mono (turn n s hI) (fun r s₁ h₁ => ?_) fun _ _ h' => h')))
  cases r with
  | none => exact wpAny_pure h₁
  | some v =>
    refine wpAny_bind (wpAny_mono h₁ (fun _ s₁' h₁' => ?_) fun _ _ h' => h')
    refine wpAny_bind (wpAny_mono h₁' (fun _ s₂ h₂ => wpAny_bind (wpAny_mono h₂ (fun ok s₃ h₃ => ?_) fun _ _ h' => h')) fun _ _ h' => h')
    cases ok with
    | false => exact wpAny_pure ⟨rfl, h₃⟩
    | true =>
      exact wpAny_bind (wpAny_bind (wpAny_mono h₃ (fun kv s₄ h₄ => wpAny_bind (wpAny_holding (wpAny_mono h₄ (fun vv s₅ h₅ => wpAny_bind (wpAny_standAt (wpAny_holding (wpAny_mono h₅ (fun _ s₆ h₆ => wpAny_pure ⟨rfl, h₆⟩) fun _ _ h' => h')))) fun _ _ h' => h'))) fun _ _ h' => h'))
theorem startD1 (h0 : codeAny (model prog w) A (.compLoop (.DictComp kx vx [⟨t0, i0, ifs0, 0⟩, ⟨t1, i1, ifs1, 0⟩] scope pos) 1 it (.ref D) env) R s)
    (h : wpAny (model prog w) A (pyIter it) (fun it' s' => codeAny (model prog w) A (.compLoop (.DictComp kx vx [⟨t0, i0, ifs0, 0⟩, ⟨t1, i1, ifs1, 0⟩] scope pos) 1 it' (.ref D) env) R s') (NE prog w A env R) s) :
    codeAny (model prog w) A (.compStart (.DictComp kx vx [⟨t0, i0, ifs0, 0⟩, ⟨t1, i1, ifs1, 0⟩] scope pos) 1 it (.ref D) env) R s := by
  refine codeAny_of_tree ?_
  show wpAny _ _ ((compStart (.DictComp kx vx [⟨t0, i0, ifs0, 0⟩, ⟨t1, i1, ifs1, 0⟩] scope pos) 1 it (.ref D) env).onRaise (fun x => do noteFrame x env; standAt theWindowsPlace)) _ _ s
  refine wpAny_notedAt ?_
  unfold compStart
  show wpAny _ _ (ask >>= _) _ _ s
  refine wpAny_bind (wpAny_askSetting (wpAny_ite ?_))
  split
  · first
      | exact wpAny_bind (wpAny_pure (wpAny_pure (And.intro rfl h0)))
      | exact wpAny_pure (And.intro rfl h0)
  · first
      | exact wpAny_bind (wpAny_rule (wpAny_bind (wpAny_standAt (wpAny_bind (wpAny_mono h (fun it' s' h' => wpAny_pure (And.intro rfl h')) fun _ _ x => x)))))
      | (refine wpAny_bind (wpAny_rule ?_); show wpAny _ _ (standAt i1.pos >>= _) _ _ s; exact wpAny_bind (wpAny_standAt (wpAny_bind (wpAny_mono h (fun it' s' h' => wpAny_pure (And.intro rfl h')) fun _ _ x => x))))
end
/-! ### the block -/
section
variable {X : Cx}
/-- {..: .. for target in iter if .. ..}: D the new dict; what follows the tests in tp -/
def tDk (wi : TI) (g : TG) (tt : TT) (tp : Addr → L2.St → Hp → (Hp → Prop) → Prop) (vs : List Nat) : TE := fun σ H Q => wi σ H fun J H1 => ∀ D, H1 D = none → ∃ W : Nat → Nat → Hp → Prop, (∃ m, W 0 m (upd H1 D (dicO D []))) ∧ ∀ i m H, W i m H →
  (J.stop i H ∧ Q (.ref D) H) ∨ (J.go i H ∧ ∃ Nx : Hp → Prop, (∀ H', Nx H' → ∃ m', m' < m ∧ W (i + 1) m' H') ∧ ∀ x H', J.yld i H x H' → g x (wipe σ vs) H' fun σ2 H2 => wipe σ2 vs = wipe σ vs ∧ tt σ2 H2 fun b H3 => if b = true then tp D σ2 H3 Nx else Nx H3)
/-- what follows the tests does as tp says -/
def PayOk (B : Cx) (vs : List Nat) (tp : Addr → L2.St → Hp → (Hp → Prop) → Prop) (pay : (Result → Shared → Prop) → Addr → (Shared → Prop) → Shared → Prop) : Prop :=
  ∀ (pins : List (Addr × Obj)) (s : Shared) (σ : L2.St) (H : Hp) (D : Addr) (Nx : Hp → Prop) (P : Shared → Prop) (R : Result → Shared → Prop), Inv B pins σ H s → tp D σ H Nx →
    (∀ (σ' : L2.St) (H' : Hp) (s' : Shared), Inv B pins σ' H' s' → σ'.length = σ.length → (∀ (j : Nat) (v : V), j ∉ vs → σ[j]? = some (some v) → σ'[j]? = some (some v)) → Nx H' → P s') → pay R D P s
theorem pe_dk {kx vx tg iter : Expr} {ifs : List Expr} {rest : List Comprehension} {scope : Scope} {own : List (Str × Nat)} {pos : Pos} {wi : TI} {g : TG} {tt : TT} {tp : Addr → L2.St → Hp → (Hp → Prop) → Prop} {pay : Env → (Result → Shared → Prop) → Addr → (Shared → Prop) → Shared → Prop}
    (hc : X.calm = true) (hN : X.N.Nodup) (hi : PI X tg iter wi) (ok : BlkOk X.N X.env.scope scope own)
    (hloop : ∀ (env : Env) (it : Value) (D : Addr) (R : Result → Shared → Prop) (I : Nat → Shared → Prop) (turn : ∀ n s, I n s → TurnP X.prog X.w X.A R tg ifs it env (pay env R D) (fun s => ∃ m, m < n ∧ I m s) s) (n : Nat) (s : Shared) (h : I n s),
      codeAny (model X.prog X.w) X.A (.compLoop (.DictComp kx vx (⟨tg, iter, ifs, 0⟩ :: rest) scope pos) 0 it (.ref D) env) R s)
    (hg : ∀ (s : Shared) (H : Hp) (C : Addr) (cl : List (Str × Addr)) (fp : List Addr), PG (X.blk s H scope (compEnvC scope cl C X.env) fp) tg g) (ht : ∀ (s : Shared) (H : Hp) (C : Addr) (cl : List (Str × Addr)) (fp : List Addr), PTs (X.blk s H scope (compEnvC scope cl C X.env) fp) ifs tt)
    (hp : ∀ (s : Shared) (H : Hp) (C : Addr) (cl : List (Str × Addr)) (fp : List Addr), PayOk (X.blk s H scope (compEnvC scope cl C X.env) fp) (own.map (·.2)) tp (pay (compEnvC scope cl C X.env))) (hs : ∀ x, foldedSetIterable iter X.env x = pure x) :
    PE X (.DictComp kx vx (⟨tg, iter, ifs, 0⟩ :: rest) scope pos) (tDk wi g tt tp (own.map (·.2))) := by
  refine ⟨fun pins s σ H Q I h => ?_⟩
  rw [show eval (.DictComp kx vx (⟨tg, iter, ifs, 0⟩ :: rest) scope pos) X.env = comprehension (.DictComp kx vx (⟨tg, iter, ifs, 0⟩ :: rest) scope pos) scope X.env (firstIterPos (⟨tg, iter, ifs, 0⟩ :: rest) pos) newDict false (eval iter X.env) none from by rfl]
  have hfree : ∀ y ∈ scope.names, y.2 = .free → ∃ c, X.env.cells.lookup y.1 = some c := fun y hy e => (ok.free y hy e).elim (fun k => I.ok.has _ (.inl k)) fun k => I.ok.has _ (.inr k)
  refine wpAny_comprehension_free (use := none) rfl hs (closure_ok hfree) ok.kind (fun y hy e => by rw [ok.uniq y hy, e]) (thn (hi.run pins s σ H _ I h) fun xv s1 hx => thn hx fun itv s2 h2 => ?_)
  obtain ⟨it, fp, tn, J, H2, e, I2, T, st2, f2, q⟩ := h2
  subst e
  refine wpAny_newObj_type (newEnv_comp ?_)
  generalize hD : s2.heap.objs.size = D
  have hDn : H2 D = none := I2.hok.fresh (Nat.le_of_eq hD)
  obtain ⟨W, ⟨m0, w0⟩, turn⟩ := q D hDn
  generalize hs3 : ({ s2 with heap := s2.heap.push { cls := .type "dict", data := .dict #[] } } : Shared) = s3
  have I3 : Inv X pins σ (upd H2 D (dicO D [])) s3 := by
    rw [← hs3]
    refine I2.laid (t' := s2.toks) (fun b o e => Heap.get?_push_of_some _ e) (Nat.le_of_eq hD) (dicO_ok ?_ (Nat.zero_le _) (by rw [← hD]; exact Heap.get?_push_size _ rfl) ⟨rfl, rfl, rfl⟩ rfl .nil)
    have := I2.big
    rw [← hD]
    exact beq_false_of_ne (Nat.ne_of_gt this)
  have h3 : s3.heap = s2.heap.push { cls := .type "dict", data := .dict #[] } := by rw [← hs3]
  have f3 : ∀ b ∈ fp, FpOk X pins (upd H2 D (dicO D [])) b ∧ b < s3.heap.objs.size := fun b hb => by
    obtain ⟨o, e, _⟩ := T.obj _ _ st2 b hb
    have hlt := Heap.lt_size e
    refine ⟨⟨?_, (f2 b hb).2⟩, by rw [h3, Heap.size_push]; exact Nat.lt_succ_of_lt hlt⟩
    rw [upd_ne (by rw [← hD]; exact Nat.ne_of_lt hlt)]
    exact (f2 b hb).1
  have st3 : tn 0 s3.heap := T.keep _ _ _ st2 fun b _ o e => by rw [h3]; exact Heap.get?_push_of_some _ e
  have I4 := block_start I3 ok hN f3
  have pg := hg s3 (upd H2 D (dicO D [])) s3.heap.objs.size (cellsFrom (s3.heap.objs.size + 1) scope.names (cloFrom X.env.cells scope.names [])) fp
  have pt := ht s3 (upd H2 D (dicO D [])) s3.heap.objs.size (cellsFrom (s3.heap.objs.size + 1) scope.names (cloFrom X.env.cells scope.names [])) fp
  have pp := hp s3 (upd H2 D (dicO D [])) s3.heap.objs.size (cellsFrom (s3.heap.objs.size + 1) scope.names (cloFrom X.env.cells scope.names [])) fp
  show codeAny _ _ (.compStart (.DictComp kx vx (⟨tg, iter, ifs, 0⟩ :: rest) scope pos) 0 (.ref it) (.ref D) (compEnvC scope (cellsFrom (s3.heap.objs.size + 1) scope.names (cloFrom X.env.cells scope.names [])) s3.heap.objs.size X.env)) (compPost (model X.prog X.w) X.A X.xe none (EP X pins σ Q) (.ref D) s3.heap.objs.size) { s3 with heap := pushCells (s3.heap.push { cls := .type "dict", data := .dict #[] }) scope.names }
  have nfp : ∀ b ∈ fp, (upd H2 D (dicO D [])) b = none := fun b hb => (f3 b hb).1.1
  generalize hce : compEnvC scope (cellsFrom (s3.heap.objs.size + 1) scope.names (cloFrom X.env.cells scope.names [])) s3.heap.objs.size X.env = ce at I4 pg pt pp ⊢
  have cL : ce.locals = s3.heap.objs.size := by subst hce; rfl
  generalize hH3 : upd H2 D (dicO D []) = H3 at I3 I4 pg pt pp w0 nfp f3
  generalize hs4 : ({ s3 with heap := pushCells (s3.heap.push { cls := .type "dict", data := .dict #[] }) scope.names } : Shared) = s4 at I4 ⊢
  have st4 : tn 0 s4.heap := T.keep _ _ _ st3 fun b _ o e => by rw [← hs4]; exact pushCells_keeps _ _ _ _ (Heap.get?_push_of_some _ e)
  have stat : ∀ {σ' : L2.St} {H' : Hp} {s' : Shared}, Inv (X.blk s3 H3 scope ce fp) [] σ' H' s' → (∀ b ∈ fp, H' b = none) → ∀ b ∈ fp, FpOk (X.blk s3 H3 scope ce fp) [] H' b := fun {σ' H' s'} I' hn b hb =>
    ⟨hn b hb, (I'.ok.exf b hb).1, I'.ok.exfs b hb, .inl hb, fun x c e => (I'.ok.exf b hb).2 x c e, fun p hp => absurd (show p ∈ ([] : List (Addr × Obj)) ++ [] from hp) (by simp)⟩
  have loop : codeAny (model X.prog X.w) X.A (.compLoop (.DictComp kx vx (⟨tg, iter, ifs, 0⟩ :: rest) scope pos) 0 (.ref it) (.ref D) ce) (compPost (model X.prog X.w) X.A X.xe none (EP X pins σ Q) (.ref D) s3.heap.objs.size) s4 := by
    refine hloop ce (.ref it) D _ (fun n s' => ∃ i H', Inv (X.blk s3 H3 scope ce fp) [] (wipe σ (own.map (·.2))) H' s' ∧ tn i s'.heap ∧ (∀ b ∈ fp, H' b = none) ∧ W i n H') ?_ m0 s4 ⟨0, H3, I4, st4, nfp, w0⟩
    rintro n s5 ⟨i, H5, I5, st5, n5, w5⟩
    unfold TurnP
    rcases turn i n H5 w5 with ⟨stop, qq⟩ | ⟨go, Nx, hNx, step⟩
    · have td := T.done (X.blk s3 H3 scope ce fp) rfl rfl rfl hc i [] s5 _ H5 (fun _ _ => False) I5 (stat I5 n5) st5 stop
      refine thnF td fun r s6 ⟨hr, I6⟩ => ?_
      subst hr
      have I7 : Inv X pins σ H5 s6 := I3.call' (ch := fp) I6.os I6.base I6.hok I6.bare fun b hb => ⟨(f3 b hb).1.2.2.2.1, (f3 b hb).1.2.1, (f3 b hb).1.2.2.2.2.1, (f3 b hb).1.2.2.2.2.2⟩
      have nC : H5 s3.heap.objs.size = none := by
        have z : H5 ce.locals = none := I6.free
        rw [cL] at z
        exact z
      obtain ⟨m, hn, _⟩ := I6.loc
      have hn : s6.heap.Ns ce.locals m := hn
      rw [cL] at hn
      obtain ⟨f0, f1, f2, f3, f4, f5⟩ := I3.fpOk (Nat.le_refl _) nC
      exact ⟨m, hn, fun h'' sb => ⟨.ref D, H5, I7.turned (t' := s6.toks) (fun b o hb e => (sb.2 b hb).trans e) f0 f1 f3 f4 f5, rfl, qq⟩⟩
    · have ti := T.item (X.blk s3 H3 scope ce fp) rfl rfl rfl hc i [] s5 _ H5 (fun _ _ => False) I5 (stat I5 n5) st5 go
      refine thnF ti fun r s6 ⟨u, hr, h6⟩ => ?_
      subst hr
      refine thnF h6 fun _ s7 ⟨x, H7, I7, r7, y7, st7, n7⟩ => ?_
      have I7' := I7.pinned (stat I7 n7) (T.obj _ _ st7)
      refine thnF (pg.run _ s7 _ H7 x u _ I7' r7 (step x H7 y7)) fun _ s8 ⟨σ8, H8, I8, hw8, q8⟩ => ?_
      refine thnF (pt.run _ s8 σ8 H8 _ I8 q8) fun b s9 ⟨H9, I9, q9⟩ => ?_
      have fin : ∀ {σ9 : L2.St} {s' : Shared} {H' : Hp}, Inv (X.blk s3 H3 scope ce fp) ([] ++ pinsAt fp s7.heap) σ9 H' s' → σ9.length = σ8.length → (∀ (j : Nat) (v : V), j ∉ own.map (·.2) → σ8[j]? = some (some v) → σ9[j]? = some (some v)) → Nx H' →
          ∃ m, m < n ∧ ∃ i H', Inv (X.blk s3 H3 scope ce fp) [] (wipe σ (own.map (·.2))) H' s' ∧ tn i s'.heap ∧ (∀ b ∈ fp, H' b = none) ∧ W i m H' := fun {σ9 s' H'} I' hl hk nx => by
        obtain ⟨m', hm, w'⟩ := hNx H' nx
        have pin' : ∀ b ∈ fp, ∀ o, s7.heap.get? b = some o → s'.heap.get? b = some o ∧ H' b = none := fun b hb o e =>
          let z := I'.pin (b, o) (List.mem_append_right _ (List.mem_append_right _ (mem_pinsAt hb e)))
          ⟨z.1, z.2.1⟩
        refine ⟨m', hm, i + 1, H', (I'.unpinned (pins := [])).weak (by rw [← hw8, wipe_length, hl]) (fun j v e => ?_), T.keep _ _ _ st7 fun b hb o e => (pin' b hb o e).1, fun b hb => ?_, w'⟩
        · rw [← hw8] at e
          obtain ⟨e1, e2⟩ := wipe_some e
          exact hk j v e2 e1
        · obtain ⟨o, e, _⟩ := T.obj _ _ st7 b hb
          exact (pin' b hb o e).2
      cases b with
      | false =>
        simp only [Bool.false_eq_true, if_false] at q9 ⊢
        exact fin I9 rfl (fun _ _ _ e => e) q9
      | true =>
        simp only [if_true] at q9 ⊢
        exact pp _ s9 σ8 H9 D Nx _ _ I9 q9 fun σ' H' s' I' hl hk nx => fin I' hl hk nx
  exact codeAny_compStart_dict loop (T.self X.A 0 _ _ _ st4 loop)
end
end DL
end
section
set_option Elab.async false
set_option linter.all false
set_option autoImplicit false
set_option maxRecDepth 100000
/-! The data layer, part q: comprehensions, by what they gather. -/
namespace DL
open PySem PySem.Spec PyProof.Rows L2

/-! ### steps that change a hidden object -/
structure StepX (D : Addr) (h : Store) (μ : Mu) (H : Hp) (h' : Store) (μ' : Mu) (H' : Hp) : Prop extends StepL h μ H h' μ' H' where
  hkp : ∀ a, μ.hid a → μ'.hid a
  same : ∀ (a : Addr) (o : HO), a ≠ D → μ.hid a → ¬ Ls h μ a → H a = some o → (∀ ps, o ≠ .tbl ps) → H' a = some o
section
variable {K : PySem.W.Frag} {w : World} {T : List (Addr × Str)} {D : Addr} {h h1 h2 : Store} {μ μ1 μ2 : Mu} {H H1 H2 : Hp}
theorem StepX.of (s : Step h μ H h1 μ1 H1) : StepX D h μ H h1 μ1 H1 := ⟨s.toStepL, s.hkp, fun a o _ => s.same a o⟩
theorem StepX.refl : StepX D h μ H h μ H := .of .refl
theorem StepX.trans (a : StepX D h μ H h1 μ1 H1) (b : StepX D h1 μ1 H1 h2 μ2 H2) : StepX D h μ H h2 μ2 H2 where
  toStepL := a.toStepL.trans b.toStepL
  hkp := fun c z => b.hkp c (a.hkp c z)
  same := fun c o n z nl e nt => b.same c o n (a.hkp c z) (fun y => (a.liv c y).elim nl fun q => by rw [q] at e; cases e) (a.same c o n z nl e nt) nt
theorem EnvR.stepL {σ : L2.St} {ρ : Rho} (e : EnvR K w h μ H σ ρ) (s : StepL h μ H h1 μ1 H1) : EnvR K w h1 μ1 H1 σ ρ :=
  ⟨e.len, fun i d q => let ⟨v, e1, e2⟩ := e.get i d q; ⟨v, e1, e2.stepL s⟩⟩
end

/-- something that gathers data in a hidden object -/
structure Acc (K : PySem.W.Frag) (w : World) (T : List (Addr × Str)) (α : Type) where
  o0 : Addr → HO
  put : Addr → V → Hp → (Hp → Prop) → Prop
  init : α
  add : α → PyData → Option α
  AR : (Addr → Prop) → Hp → Addr → α → Prop
  out : α → DL.D
  start : ∀ L H D, AR L (upd H D (o0 D)) D init
  step : ∀ {h : Store} {μ : Mu} {H : Hp} {h' : Store} {μ' : Mu} {H' : Hp} {D : Addr} {acc : α}, μ.hid D → ¬ Ls h μ D → Step h μ H h' μ' H' → AR (Lv h μ) H D acc → AR (Lv h' μ') H' D acc
  doPut : ∀ {h : Store} {μ : Mu} {H : Hp} {D : Addr} {acc acc' : α} {v : V} {d : PyData} {Nx : Hp → Prop}, HRel K w T H h μ → μ.hid D → AR (Lv h μ) H D acc → Rp K (Lv h μ) H v d → add acc d = some acc' →
    (∀ H', StepX D h μ H h μ H' → HRel K w T H' h μ → AR (Lv h μ) H' D acc' → Nx H') → put D v H Nx
  outR : ∀ {h : Store} {μ : Mu} {H : Hp} {D : Addr} {acc : α}, AR (Lv h μ) H D acc → HRel K w T H h μ → μ.hid D → RpD K w h (μ.show D) H (.ref D) (out acc)

def putM {α : Type} (add : α → PyData → Option α) (acc : α) : D → M α := fun y => match y with
  | .dat d => .opt (add acc d)
  | _ => .no
/-- one turn: the target, the tests, what follows -/
def turnF {α : Type} (C : Nat → List D → M D) (own : List Nat) (tg : Tg) (cond : Ox) (pl : Rho → α → M α) (ρ : Rho) : D → α → M α := fun x acc =>
  (M.opt (assignT tg (wipeR ρ own) x)).bind fun ρ' => (denc C cond ρ').bind fun b => if b = true then pl ρ' acc else .ret acc
def pl1 {α : Type} (C : Nat → List D → M D) (add : α → PyData → Option α) (e : Ex) : Rho → α → M α := fun ρ acc => (den C e ρ).bind (putM add acc)
def pl2 {α : Type} (C : Nat → List D → M D) (add : α → PyData → Option α) (e : Ex) (tg2 : Tg) (it2 : DL.It) (cond2 : Ox) : Rho → α → M α := fun ρ acc => (denIt C it2 ρ).bind fun xs => loopC (turnF C (tgIds tg2) tg2 cond2 (pl1 C add e) ρ) xs acc

section
variable {K : PySem.W.Frag} {w : World} {T : List (Addr × Str)} {C : Nat → List D → M D} {α : Type} (A : Acc K w T α)
/-- what follows the tests, in the hand layer -/
abbrev TP := Addr → L2.St → Hp → (Hp → Prop) → Prop
/-- the reading of what follows the tests holds where the meaning runs through -/
def PlOk (pl : Rho → α → M α) (tp : TP) : Prop := ∀ (σ : L2.St) (ρ : Rho) (h : Store) (μ : Mu) (H : Hp) (D : Addr) (acc acc' : α) (h' : Store) (Nx : Hp → Prop), EnvR K w h μ H σ ρ → HRel K w T H h μ → μ.hid D → A.AR (Lv h μ) H D acc → pl ρ acc h = .ok acc' h' →
  (∀ μ' H', StepX D h μ H h' μ' H' → HRel K w T H' h' μ' → A.AR (Lv h' μ') H' D acc' → Nx H') → tp D σ H Nx
theorem loop_W {pl : Rho → α → M α} {tp : TP} (hp : PlOk A pl tp) {J : L2.It} {xs : List DL.D} {h0 h : Store} {μ0 μ : Mu} {H0 H : Hp} {D : Addr} {acc accE : α} {hE : Store} {own : List Nat} {t : Tg} {cond : Ox} {ρ : Rho} {σ : L2.St} {End : Hp → Prop}
    (hJ : ItR K w T h0 μ0 H0 J xs) (st0 : StepL h0 μ0 H0 h μ H) (R : HRel K w T H h μ) (hD : μ.hid D) (ar : A.AR (Lv h μ) H D acc) (en : EnvR K w h μ H σ ρ) (hsub : ∀ i ∈ tgIds t, i ∈ own) (run : loopC (turnF C own t cond pl ρ) xs acc h = .ok accE hE)
    (fin : ∀ μ' H', StepX D h μ H hE μ' H' → HRel K w T H' hE μ' → A.AR (Lv hE μ') H' D accE → End H') :
    ∃ W : Nat → Nat → Hp → Prop, (∃ m, W 0 m H) ∧ ∀ i m H', W i m H' → (J.stop i H' ∧ End H') ∨ (J.go i H' ∧ ∃ Nx : Hp → Prop, (∀ H', Nx H' → ∃ m', m' < m ∧ W (i + 1) m' H') ∧ ∀ x H'', J.yld i H' x H'' →
      gT K w T t x (wipe σ own) H'' fun σ2 H2 => wipe σ2 own = wipe σ own ∧ tC K w T C cond σ2 H2 fun b H3 => if b = true then tp D σ2 H3 Nx else Nx H3) := by
  refine ⟨fun i m Hc => m = xs.length - i ∧ i ≤ xs.length ∧ ∃ hc μc acc, StepX D h μ H hc μc Hc ∧ HRel K w T Hc hc μc ∧ A.AR (Lv hc μc) Hc D acc ∧ loopC (turnF C own t cond pl ρ) (xs.drop i) acc hc = .ok accE hE,
    ⟨xs.length, by simp, Nat.zero_le _, h, μ, acc, .refl, R, ar, run⟩, ?_⟩
  rintro i m Hc ⟨rfl, hile, hc, μc, ac, st, Rc, arc, rn⟩
  have hDc := st.hkp D hD
  by_cases hlt : i < xs.length
  · right
    obtain ⟨_, hgo⟩ := hJ i hc μc Hc (st0.trans st.toStepL) Rc
    obtain ⟨go, hyl⟩ := hgo xs[i] (List.getElem?_eq_getElem hlt)
    refine ⟨go, fun H' => ∃ hc μc acc, StepX D h μ H hc μc H' ∧ HRel K w T H' hc μc ∧ A.AR (Lv hc μc) H' D acc ∧ loopC (turnF C own t cond pl ρ) (xs.drop (i + 1)) acc hc = .ok accE hE, fun H' q => ⟨xs.length - (i + 1), by omega, rfl, hlt, q⟩, fun x H' y => ?_⟩
    obtain ⟨sy, Ry, ry⟩ := hyl x H' y
    rw [List.drop_eq_getElem_cons hlt] at rn
    obtain ⟨acc2, h2, run1, run2⟩ := M.bind_inv rn
    obtain ⟨ρ', hA, eA0, runB⟩ := M.bind_inv run1
    obtain ⟨eA, rfl⟩ := M.opt_inv eA0
    obtain ⟨b, h3, eB, runC⟩ := M.bind_inv runB
    have st' := st.trans (.of sy)
    refine ⟨_, hA, μc, _, ρ', EnvR.wipe (en.stepL st'.toStepL) own, Ry, ry, eA, fun σ' hl hsame en2 => ⟨wipe_eq (hl.trans (wipe_length _ _)) hsame hsub, ρ', hA, μc, en2, Ry, Go.ok eB fun μ3 H3 s3 R3 => ?_⟩⟩
    have sAll := sy.trans s3
    have ar3 := A.step hDc (Rc.hid D hDc).2 sAll arc
    by_cases hb : b = true
    · rw [if_pos hb] at runC
      show (if b = true then _ else _)
      rw [if_pos hb]
      exact hp σ' ρ' h3 μ3 H3 D ac acc2 h2 _ (en2.step s3) R3 (s3.hkp D hDc) ar3 runC fun μ' H' sx R' ar' => ⟨h2, μ', acc2, st'.trans ((StepX.of s3).trans sx), R', ar', run2⟩
    · rw [if_neg hb] at runC
      show (if b = true then _ else _)
      rw [if_neg hb]
      obtain ⟨rfl, rfl⟩ := M.ret_inv runC
      exact ⟨h2, μ3, acc2, st.trans (.of sAll), R3, ar3, run2⟩
  · left
    have hi' : i = xs.length := by omega
    subst hi'
    refine ⟨(hJ _ hc μc Hc (st0.trans st.toStepL) Rc).1 (Nat.le_refl _), ?_⟩
    rw [List.drop_length] at rn
    obtain ⟨rfl, rfl⟩ := M.ret_inv rn
    exact fin μc Hc st Rc arc
/-- the reading of a comprehension's block -/
def tBk (o0 : Addr → HO) (wi : TI) (g : TG) (tt : TT) (tp : TP) (vs : List Nat) : TE := fun σ H Q => wi σ H fun J H1 => ∀ D, H1 D = none → ∃ W : Nat → Nat → Hp → Prop, (∃ m, W 0 m (upd H1 D (o0 D))) ∧ ∀ i m H, W i m H →
  (J.stop i H ∧ Q (.ref D) H) ∨ (J.go i H ∧ ∃ Nx : Hp → Prop, (∀ H', Nx H' → ∃ m', m' < m ∧ W (i + 1) m' H') ∧ ∀ x H', J.yld i H x H' → g x (wipe σ vs) H' fun σ2 H2 => wipe σ2 vs = wipe σ vs ∧ tt σ2 H2 fun b H3 => if b = true then tp D σ2 H3 Nx else Nx H3)
theorem bk_read {pl : Rho → α → M α} {tp : TP} (hp : PlOk A pl tp) {own : List Nat} {t : Tg} {it : DL.It} {cond : Ox} (hsub : ∀ i ∈ tgIds t, i ∈ own) (σ : L2.St) (H : Hp) (Q : VK)
    (q : tGo K w T EF (fun ρ => (denIt C it ρ).bind fun xs => (quiet (loopC (turnF C own t cond pl ρ) xs A.init)).bind fun acc => .ret (A.out acc)) σ H Q) : tBk A.o0 (iD K w T C it) (gT K w T t) (tC K w T C cond) tp own σ H Q := by
  obtain ⟨ρ, h, μ, en, R, g⟩ := q
  refine ⟨ρ, h, μ, en, R, (Go.bind g).mono fun xs h1 μ1 H1 s1 R1 g1 J hJ D hD => ?_⟩
  obtain ⟨accE, hE, eL, f⟩ := Go.inv (Go.bind g1)
  have en1 := en.step s1
  refine loop_W A hp (h := h1) (μ := μ1.hide D) hJ (hide_step hD) (hide_rel hD R1) (.inr rfl) (A.start _ _ _) (en1.stepL (hide_step hD)) hsub (quiet_inv eL) fun μ' H' st R' ar => ?_
  have hDc := st.hkp D (.inr rfl)
  have stL := (hide_step (o := A.o0 D) (h := h1) (μ := μ1) hD).trans st.toStepL
  have hn : ∀ a, μ1.hid a → a ≠ D := fun a z y => by
    obtain ⟨⟨o, q⟩, _⟩ := R1.hid a z
    rw [y, hD] at q; cases q
  refine Go.ret' (f (μ'.show D) H' ⟨⟨fun a o e nl nt => stL.ext a o e nl nt, stL.mu, stL.len, stL.liv, stL.there, fun a z => stL.hid a z.1⟩, fun a z => ⟨st.hkp a (.inl z), hn a z⟩, fun a o z nl e nt => ?_⟩ (show_rel R')) (show_rel R') (.ref D) (A.outR ar R' hDc)
  exact st.same a o (hn a z) (.inl z) nl (by rw [upd_ne (hn a z)]; exact e) nt
/-- one clause -/
abbrev tp1 (e : Ex) : TP := fun D σ H Nx => tD K w T EF C e σ H fun y H4 => A.put D y H4 Nx
theorem pl1_ok (e : Ex) : PlOk A (pl1 C A.add e) (tp1 (C := C) A e) := by
  intro σ ρ h μ H D acc acc' h' Nx en R hD ar run fin
  obtain ⟨y, h2, eY, runD⟩ := M.bind_inv run
  refine ⟨ρ, h, μ, en, R, Go.ok eY fun μ2 H2 s2 R2 v rv => ?_⟩
  cases y with
  | dat d =>
    obtain ⟨ea, rfl⟩ := M.opt_inv (show M.opt (A.add acc d) h2 = .ok acc' h' from runD)
    cases rv with | dat rv =>
    exact A.doPut R2 (s2.hkp D hD) (A.step hD (R.hid D hD).2 s2 ar) rv ea fun H' st R' ar' => fin μ2 H' ((StepX.of s2).trans st) R' ar'
  | _ => cases runD
/-- two clauses -/
abbrev tp2 (e : Ex) (tg2 : Tg) (it2 : DL.It) (cond2 : Ox) : TP := fun D σ H Nx => iD K w T C it2 σ H fun J1 H4 => ∃ W1 : Nat → Nat → Hp → Prop, (∃ m, W1 0 m H4) ∧ ∀ j k H, W1 j k H →
  (J1.stop j H ∧ Nx H) ∨ (J1.go j H ∧ ∃ Nx1 : Hp → Prop, (∀ H', Nx1 H' → ∃ k', k' < k ∧ W1 (j + 1) k' H') ∧ ∀ x H', J1.yld j H x H' → gT K w T tg2 x (wipe σ (tgIds tg2)) H' fun σ3 H5 => wipe σ3 (tgIds tg2) = wipe σ (tgIds tg2) ∧ tC K w T C cond2 σ3 H5 fun b H6 =>
    if b = true then tp1 (C := C) A e D σ3 H6 Nx1 else Nx1 H6)
theorem pl2_ok (e : Ex) (tg2 : Tg) (it2 : DL.It) (cond2 : Ox) : PlOk A (pl2 C A.add e tg2 it2 cond2) (tp2 (C := C) A e tg2 it2 cond2) := by
  intro σ ρ h μ H D acc acc' h' Nx en R hD ar run fin
  obtain ⟨xs, h2, eX, runL⟩ := M.bind_inv run
  refine ⟨ρ, h, μ, en, R, Go.ok eX fun μ2 H2 s2 R2 J hJ => ?_⟩
  exact loop_W A (pl1_ok A e) hJ Step.refl.toStepL R2 (s2.hkp D hD) (A.step hD (R.hid D hD).2 s2 ar) (en.step s2) (fun _ z => z) runL fun μ' H' st R' ar' => fin μ' H' ((StepX.of s2).trans st) R' ar'
end

/-! ### lists, dicts gathered -/
section
variable (K : PySem.W.Frag) (w : World) (T : List (Addr × Str))
def accL : Acc K w T (List PyData) where
  o0 := fun _ => .lst []
  put := fun D y H Nx => ∃ acc, H D = some (.lst acc) ∧ acc.length < sizeLine ∧ Nx (upd H D (.lst (acc ++ [y])))
  init := []
  add := fun acc d => if acc.length < 16777216 then some (acc ++ [d]) else none
  AR := fun L H D acc => ∃ ws, H D = some (.lst ws) ∧ RpAll K L H ws acc
  out := fun acc => .dat (.list acc)
  start := fun L H D => ⟨[], upd_same, .nil⟩
  step := fun {h μ H h' μ' H' D acc} hD nl s ⟨ws, e, r⟩ => ⟨ws, s.same D _ hD nl e (fun _ z => by cases z), r.step s⟩
  doPut := fun {h μ H D acc acc' v d Nx} R hD ⟨ws, e, r⟩ rv ea f => by
    by_cases hz : acc.length < 16777216
    · rw [if_pos hz] at ea
      cases ea
      have st : StepL h μ H h μ (upd H D (.lst (ws ++ [v]))) := hid_step hD e
      exact ⟨ws, e, by rw [r.length]; exact le_line hz, f _ ⟨st, fun _ z => z, fun a o n _ _ q _ => by rw [upd_ne n]; exact q⟩ (hid_rel hD e R) ⟨_, upd_same, (r.stepL st).append (.cons (rv.stepL st) .nil)⟩⟩
    · rw [if_neg hz] at ea; cases ea
  outR := fun {h μ H D acc} ⟨ws, e, r⟩ R hD => .dat (.lst e (show_lv R hD) (r.weak fun a z => z.imp id fun y => And.left (show μ.hid a ∧ a ≠ D from y)))
theorem tab_updE {H : Hp} {p : Addr} {u o : HO} {T : List (Addr × Str)} (t : LamX.Tabs T H) (e0 : H p = some u) (h1 : ∀ ps, u ≠ .tbl ps) (h2 : ∀ c q, u ≠ LamX.CodeO c q) : LamX.Tabs T (upd H p o) := fun q hq => by
  obtain ⟨ps, t1, t2, t3⟩ := t q hq
  have n1 : q.1 ≠ p := fun z => by rw [z, e0] at t1; exact h1 _ (Option.some.inj t1)
  refine ⟨ps, by rw [upd_ne n1]; exact t1, t2, fun pos cv hc => ?_⟩
  obtain ⟨c, c1, c2⟩ := t3 pos cv hc
  have n2 : c ≠ p := fun z => by rw [z, e0] at c2; exact h2 _ _ (Option.some.inj c2)
  exact ⟨c, c1, by rw [upd_ne n2]; exact c2⟩
theorem dicO_ne (a : Addr) (es : List (Int × V × V)) (c : Addr) (q : Str) : dicO a es ≠ LamX.CodeO c q := fun z => by
  have z' := HO.ext.inj z
  have e1 : ∀ b, (⟨Array.replicate (c + 1) { cls := .none, data := .fields #[.none, .str q 0] }, {}⟩ : Heap).get? b = if b < c + 1 then some { cls := .none, data := .fields #[.none, .str q 0] } else none := fun b => by
    unfold Heap.get?
    by_cases hb : b < c + 1
    · rw [if_pos hb, Array.getElem?_replicate, if_pos hb]
    · rw [if_neg hb, Array.getElem?_replicate, if_neg hb]
  have e2 := congrFun z' (⟨Array.replicate (c + 1) { cls := .none, data := .fields #[.none, .str q 0] }, {}⟩ : Heap)
  have e3 : ∃ (oc : Obj) (vs : Array Value) (t : Tok), (⟨Array.replicate (c + 1) { cls := .none, data := .fields #[.none, .str q 0] }, {}⟩ : Heap).get? c = some oc ∧ oc.data = .fields vs ∧ vs[1]? = some (.str q t) := ⟨_, _, 0, by rw [e1, if_pos (Nat.lt_succ_self c)], rfl, rfl⟩
  rw [← e2] at e3
  obtain ⟨_, _, o, ents, ep, q1, _, q3, _⟩ := e3
  rw [e1] at q1
  split at q1
  · cases q1; cases q3
  · cases q1
theorem dput_ok {kvs : List (PyData × PyData)} {k v : PyData} (hk : ∀ p ∈ kvs, keyOk8 p.1 = true) (nd : (kvs.map (·.1)).Pairwise fun a b => PyData.eqv a b = false) (ok : keyOk8 k = true) :
    (∀ p ∈ dput kvs k v, keyOk8 p.1 = true) ∧ ((dput kvs k v).map (·.1)).Pairwise fun a b => PyData.eqv a b = false := by
  unfold dput
  split
  · refine ⟨fun p hp => ?_, ?_⟩
    · obtain ⟨q, hq, rfl⟩ := List.mem_map.mp hp
      split
      · exact hk q hq
      · exact hk q hq
    · rw [List.map_map]
      have : ((fun p : PyData × PyData => p.1) ∘ fun p => if PyData.eqv p.1 k = true then (p.1, v) else p) = fun p => p.1 := by
        funext p
        show (if PyData.eqv p.1 k = true then (p.1, v) else p).1 = p.1
        split <;> rfl
      rw [this]
      exact nd
  · rename_i hn
    refine ⟨fun p hp => ?_, ?_⟩
    · rcases List.mem_append.mp hp with z | z
      · exact hk p z
      · rw [List.mem_singleton.mp z]; exact ok
    · rw [List.map_append, List.pairwise_append]
      refine ⟨nd, List.pairwise_singleton _ _, fun a ha b hb => ?_⟩
      rw [List.map_cons, List.map_nil, List.mem_singleton] at hb
      subst hb
      obtain ⟨p, hp, rfl⟩ := List.mem_map.mp ha
      refine Bool.eq_false_iff.mpr fun z => ?_
      exact absurd (List.any_eq_true.mpr ⟨p, hp, z⟩) hn
/-- what a dict comprehension's put asks: key: True -/
def putD (K : PySem.W.Frag) (w : World) (D : Addr) (y : V) (H : Hp) (Nx : Hp → Prop) : Prop := ∃ (L : Addr → Prop) (kvs : List (PyData × PyData)) (es : List (Int × V × V)) (dk : PyData), H D = some (dicO D es) ∧ DicR K w L H kvs es ∧ (∀ p ∈ kvs, keyOk8 p.1 = true) ∧ ((kvs.map (·.1)).Pairwise fun a b => PyData.eqv a b = false) ∧
  kvs.length < sizeLine ∧ Rp K L H y dk ∧ keyOk8 dk = true ∧ ∀ es', DicR K w L H (dput kvs dk (.bool true)) es' → Nx (upd H D (dicO D es'))
def accD : Acc K w T (List (PyData × PyData)) where
  o0 := fun D => dicO D []
  put := putD K w
  init := []
  add := fun acc d => if keyOk8 d && decide (acc.length < 16777216) then some (dput acc d (.bool true)) else none
  AR := fun L H D (acc : List (PyData × PyData)) => ∃ es, H D = some (dicO D es) ∧ DicR K w L H acc es ∧ (∀ p ∈ acc, keyOk8 p.1 = true) ∧ (acc.map fun p : PyData × PyData => p.1).Pairwise fun (a b : PyData) => PyData.eqv a b = false
  out := fun acc => .dic acc
  start := fun L H D => ⟨[], upd_same, .nil, (fun _ h => by cases h), .nil⟩
  step := fun {h μ H h' μ' H' D acc} hD nl s ⟨es, e, r, k1, k2⟩ => ⟨es, s.same D _ hD nl e (fun _ z => by cases z), r.stepL s.toStepL, k1, k2⟩
  doPut := fun {h μ H D acc acc' v d Nx} R hD ⟨es, e, r, k1, k2⟩ rv ea f => by
    by_cases hz : (keyOk8 d && decide (acc.length < 16777216)) = true
    · rw [if_pos hz] at ea
      cases ea
      rw [Bool.and_eq_true, decide_eq_true_eq] at hz
      refine ⟨Lv h μ, acc, es, d, e, r, k1, k2, le_line hz.2, rv, hz.1, fun es' r' => ?_⟩
      have st : StepL h μ H h μ (upd H D (dicO D es')) := hid_step hD e
      obtain ⟨o1, o2⟩ := dput_ok (v := .bool true) k1 k2 hz.1
      refine f _ ⟨st, fun _ z => z, fun a o n _ _ q _ => by rw [upd_ne n]; exact q⟩ ?_ ⟨es', upd_same, r'.stepL st, o1, o2⟩
      refine R.of_step st (fun l ds q => ?_) (tab_updE R.tab e (fun _ z => by cases z) fun c q => dicO_ne D es c q)
      exact upd_ne fun z => (R.hid D hD).2 ⟨l, ds, q, z⟩
    · rw [if_neg hz] at ea; cases ea
  outR := fun {h μ H D acc} ⟨es, e, r, k1, k2⟩ R hD => .dic e (show_lv R hD) (Paired.mapP r fun p q z => ⟨z.1, z.2.1.weak fun a z => z.imp id fun y => And.left (show μ.hid a ∧ a ≠ D from y), z.2.2.weak fun a z => z.imp id fun y => And.left (show μ.hid a ∧ a ≠ D from y)⟩) k1 k2
end
end DL
end
section
set_option Elab.async false
set_option linter.all false
set_option autoImplicit false
set_option maxRecDepth 100000
/-! The data layer, part r: comprehensions. -/
namespace DL
open PySem PySem.Spec PyProof.Rows L2

theorem putL_eq (acc : List PyData) : (fun y : D => (match y with
    | .dat d => if acc.length < 16777216 then M.ret (acc ++ [d]) else M.no
    | _ => M.no : M (List PyData))) = putM (fun acc d => if acc.length < 16777216 then some (acc ++ [d]) else none) acc := by
  funext y
  cases y with
  | dat d =>
    show (if acc.length < 16777216 then M.ret (acc ++ [d]) else M.no) = M.opt (if acc.length < 16777216 then some (acc ++ [d]) else none)
    by_cases h : acc.length < 16777216
    · rw [if_pos h, if_pos h]; rfl
    · rw [if_neg h, if_neg h]; rfl
  | _ => rfl
theorem putD_eq (acc : List (PyData × PyData)) : (fun y : D => (match y with
    | .dat d => if keyOk8 d && decide (acc.length < 16777216) then M.ret (dput acc d (.bool true)) else M.no
    | _ => M.no : M (List (PyData × PyData)))) = putM (fun acc d => if keyOk8 d && decide (acc.length < 16777216) then some (dput acc d (.bool true)) else none) acc := by
  funext y
  cases y with
  | dat d =>
    show (if keyOk8 d && decide (acc.length < 16777216) then M.ret (dput acc d (.bool true)) else M.no) = M.opt (if keyOk8 d && decide (acc.length < 16777216) then some (dput acc d (.bool true)) else none)
    by_cases h : (keyOk8 d && decide (acc.length < 16777216)) = true
    · rw [if_pos h, if_pos h]; rfl
    · rw [if_neg h, if_neg h]; rfl
  | _ => rfl
section
variable {C : Nat → List D → M D} {K : PySem.W.Frag} {w : World} {T : List (Addr × Str)} {e : Ex} {own : List Nat} {tg tg2 : Tg} {it it2 : DL.It} {cond cond2 : Ox} {ρ : Rho}
theorem den_lcA : den C (.lc e (.mk own tg it cond)) ρ = (denIt C it ρ).bind fun xs => (quiet (loopC (turnF C own tg cond (pl1 C (accL K w T).add e) ρ) xs (accL K w T).init)).bind fun acc => .ret ((accL K w T).out acc) := by
  show (denIt C it ρ).bind (fun xs => (quiet (loopC (fun x acc => (M.opt (assignT tg (wipeR ρ own) x)).bind fun ρ' => (denc C cond ρ').bind fun b => if b = true then (den C e ρ').bind (fun y : D => (match y with
    | .dat d => if acc.length < 16777216 then M.ret (acc ++ [d]) else M.no
    | _ => M.no : M (List PyData))) else .ret acc) xs [])).bind fun acc => (M.ret (D.dat (.list acc)) : M D)) = _
  simp only [putL_eq]
  rfl
theorem den_dcA : den C (.dc e (.mk own tg it cond)) ρ = (denIt C it ρ).bind fun xs => (quiet (loopC (turnF C own tg cond (pl1 C (accD K w T).add e) ρ) xs (accD K w T).init)).bind fun acc => .ret ((accD K w T).out acc) := by
  show (denIt C it ρ).bind (fun xs => (quiet (loopC (fun x acc => (M.opt (assignT tg (wipeR ρ own) x)).bind fun ρ' => (denc C cond ρ').bind fun b => if b = true then (den C e ρ').bind (fun y : D => (match y with
    | .dat d => if keyOk8 d && decide (acc.length < 16777216) then M.ret (dput acc d (.bool true)) else M.no
    | _ => M.no : M (List (PyData × PyData)))) else .ret acc) xs [])).bind fun acc => (M.ret (D.dic acc) : M D)) = _
  simp only [putD_eq]
  rfl
theorem den_lc2A {o2 : List Nat} : den C (.lc2 e (.mk own tg it cond) (.mk o2 tg2 it2 cond2)) ρ = (denIt C it ρ).bind fun xs => (quiet (loopC (turnF C own tg cond (pl2 C (accL K w T).add e tg2 it2 cond2) ρ) xs (accL K w T).init)).bind fun acc => .ret ((accL K w T).out acc) := by
  show (denIt C it ρ).bind (fun xs => (quiet (loopC (fun x acc => (M.opt (assignT tg (wipeR ρ own) x)).bind fun ρ' => (denc C cond ρ').bind fun b => if b = true then (denIt C it2 ρ').bind fun xs2 => loopC (fun x2 acc => (M.opt (assignT tg2 (wipeR ρ' (tgIds tg2)) x2)).bind fun ρ2 => (denc C cond2 ρ2).bind fun b => if b = true then (den C e ρ2).bind (fun y : D => (match y with
    | .dat d => if acc.length < 16777216 then M.ret (acc ++ [d]) else M.no
    | _ => M.no : M (List PyData))) else .ret acc) xs2 acc else .ret acc) xs [])).bind fun acc => (M.ret (D.dat (.list acc)) : M D)) = _
  simp only [putL_eq]
  rfl
theorem den_dc2A {o2 : List Nat} : den C (.dc2 e (.mk own tg it cond) (.mk o2 tg2 it2 cond2)) ρ = (denIt C it ρ).bind fun xs => (quiet (loopC (turnF C own tg cond (pl2 C (accD K w T).add e tg2 it2 cond2) ρ) xs (accD K w T).init)).bind fun acc => .ret ((accD K w T).out acc) := by
  show (denIt C it ρ).bind (fun xs => (quiet (loopC (fun x acc => (M.opt (assignT tg (wipeR ρ own) x)).bind fun ρ' => (denc C cond ρ').bind fun b => if b = true then (denIt C it2 ρ').bind fun xs2 => loopC (fun x2 acc => (M.opt (assignT tg2 (wipeR ρ' (tgIds tg2)) x2)).bind fun ρ2 => (denc C cond2 ρ2).bind fun b => if b = true then (den C e ρ2).bind (fun y : D => (match y with
    | .dat d => if keyOk8 d && decide (acc.length < 16777216) then M.ret (dput acc d (.bool true)) else M.no
    | _ => M.no : M (List (PyData × PyData)))) else .ret acc) xs2 acc else .ret acc) xs [])).bind fun acc => (M.ret (D.dic acc) : M D)) = _
  simp only [putD_eq]
  rfl
end

section
variable {X : Cx} {T : List (Addr × Str)} {C : Nat → List D → M D}
/-- all that a comprehension's block asks of its context -/
structure BkOk (X : Cx) (T : List (Addr × Str)) (C : Nat → List D → M D) (scope : Scope) (own : List (Str × Nat)) (tg iter : Expr) (ifs : List Expr) (t : Tg) (it : DL.It) (cond : Ox) : Prop where
  hc : X.calm = true
  hN : X.N.Nodup
  hi : PI X tg iter (iD X.K X.w T C it)
  ok : BlkOk X.N X.env.scope scope own
  hg : ∀ (s : Shared) (H : Hp) (Ca : Addr) (cl : List (Str × Addr)) (fp : List Addr), PG (X.blk s H scope (compEnvC scope cl Ca X.env) fp) tg (gT X.K X.w T t)
  ht : ∀ (s : Shared) (H : Hp) (Ca : Addr) (cl : List (Str × Addr)) (fp : List Addr), PTs (X.blk s H scope (compEnvC scope cl Ca X.env) fp) ifs (tC X.K X.w T C cond)
  hs : ∀ x, foldedSetIterable iter X.env x = pure x
  hsub : ∀ i ∈ tgIds t, i ∈ own.map (·.2)
/-- the second clause -/
structure BkOk2 (X : Cx) (T : List (Addr × Str)) (C : Nat → List D → M D) (scope : Scope) (own : List (Str × Nat)) (tg iter : Expr) (ifs : List Expr) (t : Tg) (it : DL.It) (cond : Ox) : Prop where
  hi : ∀ (s : Shared) (H : Hp) (Ca : Addr) (cl : List (Str × Addr)) (fp : List Addr), PI (X.blk s H scope (compEnvC scope cl Ca X.env) fp) tg iter (iD X.K X.w T C it)
  hg : ∀ (s : Shared) (H : Hp) (Ca : Addr) (cl : List (Str × Addr)) (fp : List Addr), PG (X.blk s H scope (compEnvC scope cl Ca X.env) fp) tg (gT X.K X.w T t)
  ht : ∀ (s : Shared) (H : Hp) (Ca : Addr) (cl : List (Str × Addr)) (fp : List Addr), PTs (X.blk s H scope (compEnvC scope cl Ca X.env) fp) ifs (tC X.K X.w T C cond)
  hs : ∀ env x, foldedSetIterable iter env x = pure x
  hsub : ∀ i ∈ tgIds t, i ∈ own.map (·.2)
variable {scope : Scope} {own : List (Str × Nat)} {tg iter tg2 iter2 elt : Expr} {ifs ifs2 : List Expr} {t t2 : Tg} {it it2 : DL.It} {cond cond2 : Ox} {e : Ex} {pos : Pos} {o2 : List Nat}
theorem lc_read (hsub : ∀ i ∈ tgIds t, i ∈ own.map (·.2)) (σ : L2.St) (H : Hp) (Q : VK) (h : tD X.K X.w T EF C (.lc e (.mk (own.map (·.2)) t it cond)) σ H Q) : tLc (iD X.K X.w T C it) (gT X.K X.w T t) (tC X.K X.w T C cond) (tD X.K X.w T EF C e) (own.map (·.2)) σ H Q := by
  refine bk_read (accL X.K X.w T) (pl1_ok (accL X.K X.w T) e) hsub σ H Q ?_
  obtain ⟨ρ, h0, μ, en, R, g⟩ := h
  exact ⟨ρ, h0, μ, en, R, by rw [den_lcA (K := X.K) (w := X.w) (T := T)] at g; exact g⟩
theorem pd_lc (b : BkOk X T C scope own tg iter ifs t it cond) (he : ∀ (s : Shared) (H : Hp) (Ca : Addr) (cl : List (Str × Addr)) (fp : List Addr), PDE (X.blk s H scope (compEnvC scope cl Ca X.env) fp) T EF C elt e) :
    PDE X T EF C (.ListComp elt [⟨tg, iter, ifs, 0⟩] scope pos) (.lc e (.mk (own.map (·.2)) t it cond)) := (pe_lc b.hc b.hN b.hi b.ok b.hg b.ht he b.hs).imp (lc_read b.hsub)
theorem lc2_read (hsub : ∀ i ∈ tgIds t, i ∈ own.map (·.2)) (σ : L2.St) (H : Hp) (Q : VK) (h : tD X.K X.w T EF C (.lc2 e (.mk (own.map (·.2)) t it cond) (.mk o2 t2 it2 cond2)) σ H Q) :
    tLc2 (iD X.K X.w T C it) (gT X.K X.w T t) (tC X.K X.w T C cond) (iD X.K X.w T C it2) (gT X.K X.w T t2) (tC X.K X.w T C cond2) (tD X.K X.w T EF C e) (own.map (·.2)) (tgIds t2) σ H Q := by
  refine bk_read (accL X.K X.w T) (pl2_ok (accL X.K X.w T) e t2 it2 cond2) hsub σ H Q ?_
  obtain ⟨ρ, h0, μ, en, R, g⟩ := h
  exact ⟨ρ, h0, μ, en, R, by rw [den_lc2A (K := X.K) (w := X.w) (T := T)] at g; exact g⟩
theorem pd_lc2 (b : BkOk X T C scope own tg iter ifs t it cond) (b2 : BkOk2 X T C scope own tg2 iter2 ifs2 t2 it2 cond2) (he : ∀ (s : Shared) (H : Hp) (Ca : Addr) (cl : List (Str × Addr)) (fp : List Addr), PDE (X.blk s H scope (compEnvC scope cl Ca X.env) fp) T EF C elt e) :
    PDE X T EF C (.ListComp elt [⟨tg, iter, ifs, 0⟩, ⟨tg2, iter2, ifs2, 0⟩] scope pos) (.lc2 e (.mk (own.map (·.2)) t it cond) (.mk o2 t2 it2 cond2)) := (pe_lc2 b.hc b.hN b.hi b.ok b2.hsub b.hg b.ht b2.hi b2.hg b2.ht he b.hs b2.hs).imp (lc2_read b.hsub)

/-! dicts -/
theorem bl_run {B : Cx} {pins : List (Addr × Obj)} {s : Shared} {σ : L2.St} {H : Hp} {b : Bool} {k : Nat} {p : Pos} {Q : VK} (I : Inv B pins σ H s) (h : Q (.bl b) H) : wpAny (model B.prog B.w) B.A (eval (.Constant (.bool b) k p) B.env) (EP B pins σ Q) B.xe s := pe_bl.run pins s σ H Q I h
theorem payK_ok (hu : X.A.units + 8 < cLine) {kx : Expr} {vs : List Nat} {k : Nat} {p : Pos} (he : ∀ (s : Shared) (H : Hp) (Ca : Addr) (cl : List (Str × Addr)) (fp : List Addr), PDE (X.blk s H scope (compEnvC scope cl Ca X.env) fp) T EF C kx e) (s0 : Shared) (H0 : Hp) (Ca : Addr) (cl : List (Str × Addr)) (fp : List Addr)
    {pins : List (Addr × Obj)} {s : Shared} {σ : L2.St} {H : Hp} {D : Addr} {Nx : Hp → Prop} {P : Shared → Prop} {R : Result → Shared → Prop} (I : Inv (X.blk s0 H0 scope (compEnvC scope cl Ca X.env) fp) pins σ H s) (h : tp1 (C := C) (accD X.K X.w T) e D σ H Nx)
    (fin : ∀ (H' : Hp) (s' : Shared), Inv (X.blk s0 H0 scope (compEnvC scope cl Ca X.env) fp) pins σ H' s' → Nx H' → P s') : payK X.prog X.w X.A R kx (.Constant (.bool true) k p) D (compEnvC scope cl Ca X.env) P s := by
  unfold payK
  refine thnF ((he s0 H0 Ca cl fp).run pins s σ H _ I h) fun kv s4 ⟨y, H4, I4, r4, q4⟩ => ?_
  obtain ⟨L, kvs, es, dk, e1, e2, e3, e4, e5, e6, e7, f⟩ := q4
  refine thnF (bl_run (B := X.blk s0 H0 scope (compEnvC scope cl Ca X.env) fp) (b := true) (k := k) (p := p) (Q := fun v H' => v = .bl true ∧ H' = H4) I4 ⟨rfl, rfl⟩) fun vv s5 ⟨z, H5, I5, r5, q5⟩ => ?_
  obtain ⟨rfl, rfl⟩ := q5
  exact d_set (X := X.blk s0 H0 scope (compEnvC scope cl Ca X.env) fp) hu I5 e1 e2 e3 e4 e5 e6 e7 r4 (.bl true) r5 fun s6 es' I6 r6 => fin _ s6 I6 (f es' r6)
theorem dc_pay (hu : X.A.units + 8 < cLine) {kx : Expr} {vs : List Nat} {k : Nat} {p : Pos} (he : ∀ (s : Shared) (H : Hp) (Ca : Addr) (cl : List (Str × Addr)) (fp : List Addr), PDE (X.blk s H scope (compEnvC scope cl Ca X.env) fp) T EF C kx e) :
    ∀ (s : Shared) (H : Hp) (Ca : Addr) (cl : List (Str × Addr)) (fp : List Addr), PayOk (X.blk s H scope (compEnvC scope cl Ca X.env) fp) vs (tp1 (C := C) (accD X.K X.w T) e) (fun R D => payK X.prog X.w X.A R kx (.Constant (.bool true) k p) D (compEnvC scope cl Ca X.env)) :=
  fun s0 H0 Ca cl fp pins s σ H D Nx P R I h fin => payK_ok (vs := vs) hu he s0 H0 Ca cl fp I h fun H' s' I' nx => fin σ H' s' I' rfl (fun _ _ _ e => e) nx
theorem dc_read (hsub : ∀ i ∈ tgIds t, i ∈ own.map (·.2)) (σ : L2.St) (H : Hp) (Q : VK) (h : tD X.K X.w T EF C (.dc e (.mk (own.map (·.2)) t it cond)) σ H Q) : tDk (iD X.K X.w T C it) (gT X.K X.w T t) (tC X.K X.w T C cond) (tp1 (C := C) (accD X.K X.w T) e) (own.map (·.2)) σ H Q := by
  refine bk_read (accD X.K X.w T) (pl1_ok (accD X.K X.w T) e) hsub σ H Q ?_
  obtain ⟨ρ, h0, μ, en, R, g⟩ := h
  exact ⟨ρ, h0, μ, en, R, by rw [den_dcA (K := X.K) (w := X.w) (T := T)] at g; exact g⟩
theorem pd_dc (hu : X.A.units + 8 < cLine) {k : Nat} {p : Pos} (b : BkOk X T C scope own tg iter ifs t it cond) (he : ∀ (s : Shared) (H : Hp) (Ca : Addr) (cl : List (Str × Addr)) (fp : List Addr), PDE (X.blk s H scope (compEnvC scope cl Ca X.env) fp) T EF C elt e) :
    PDE X T EF C (.DictComp elt (.Constant (.bool true) k p) [⟨tg, iter, ifs, 0⟩] scope pos) (.dc e (.mk (own.map (·.2)) t it cond)) :=
  (pe_dk (tp := tp1 (C := C) (accD X.K X.w T) e) (pay := fun env R D => payK X.prog X.w X.A R elt (.Constant (.bool true) k p) D env) b.hc b.hN b.hi b.ok (fun env it D R I turn n s h => loopD1 I turn n h) b.hg b.ht (dc_pay hu he) b.hs).imp (dc_read b.hsub)
theorem dc2_read (hsub : ∀ i ∈ tgIds t, i ∈ own.map (·.2)) (σ : L2.St) (H : Hp) (Q : VK) (h : tD X.K X.w T EF C (.dc2 e (.mk (own.map (·.2)) t it cond) (.mk o2 t2 it2 cond2)) σ H Q) :
    tDk (iD X.K X.w T C it) (gT X.K X.w T t) (tC X.K X.w T C cond) (tp2 (C := C) (accD X.K X.w T) e t2 it2 cond2) (own.map (·.2)) σ H Q := by
  refine bk_read (accD X.K X.w T) (pl2_ok (accD X.K X.w T) e t2 it2 cond2) hsub σ H Q ?_
  obtain ⟨ρ, h0, μ, en, R, g⟩ := h
  exact ⟨ρ, h0, μ, en, R, by rw [den_dc2A (K := X.K) (w := X.w) (T := T)] at g; exact g⟩
theorem dc2_pay (hu : X.A.units + 8 < cLine) (hc : X.calm = true) {tg0 i0 : Expr} {ifs0 : List Expr} {k : Nat} {p : Pos} (b2 : BkOk2 X T C scope own tg2 iter2 ifs2 t2 it2 cond2) (he : ∀ (s : Shared) (H : Hp) (Ca : Addr) (cl : List (Str × Addr)) (fp : List Addr), PDE (X.blk s H scope (compEnvC scope cl Ca X.env) fp) T EF C elt e) :
    ∀ (s : Shared) (H : Hp) (Ca : Addr) (cl : List (Str × Addr)) (fp : List Addr), PayOk (X.blk s H scope (compEnvC scope cl Ca X.env) fp) (own.map (·.2)) (tp2 (C := C) (accD X.K X.w T) e t2 it2 cond2) (fun R D => payI X.prog X.w X.A R iter2 (.DictComp elt (.Constant (.bool true) k p) [⟨tg0, i0, ifs0, 0⟩, ⟨tg2, iter2, ifs2, 0⟩] scope pos) D (compEnvC scope cl Ca X.env)) := by
  intro s0 H0 Ca cl fp pins s9 σ8 H9 D Nx P R I9 q9 fin
  unfold payI
  refine thnF ((b2.hi s0 H0 Ca cl fp).run _ s9 σ8 H9 _ I9 q9) fun xv s10 hx => thnF hx fun itv s11 h11 => ?_
  obtain ⟨it1, fp1, tn1, J1, H11, e1, I11, T1, st11, f11, W1, ⟨m1, w1⟩, turn1⟩ := h11
  subst e1
  have stat1 : ∀ {H' : Hp}, (∀ b ∈ fp1, H' b = none) → ∀ b ∈ fp1, FpOk (X.blk s0 H0 scope (compEnvC scope cl Ca X.env) fp) pins H' b := fun hn b hb => ⟨hn b hb, (f11 b hb).2⟩
  have loop1 : codeAny (model X.prog X.w) X.A (.compLoop (.DictComp elt (.Constant (.bool true) k p) [⟨tg0, i0, ifs0, 0⟩, ⟨tg2, iter2, ifs2, 0⟩] scope pos) 1 (.ref it1) (.ref D) (compEnvC scope cl Ca X.env))
      (fun r s' => match r with
        | .ok _ => P s'
        | .error _ => False) s11 := by
    refine loopD_in (fun n s' => ∃ j H', Inv (X.blk s0 H0 scope (compEnvC scope cl Ca X.env) fp) pins (wipe σ8 (tgIds t2)) H' s' ∧ tn1 j s'.heap ∧ (∀ b ∈ fp1, H' b = none) ∧ W1 j n H') ?_ m1 ⟨0, H11, I11.weak (wipe_length _ _) (fun j v e => (wipe_some e).1), st11, fun b hb => (f11 b hb).1, w1⟩
    rintro n s12 ⟨j, H12, I12, st12, n12, w12⟩
    unfold TurnP
    rcases turn1 j n H12 w12 with ⟨stop1, nx1⟩ | ⟨go1, Nx1, hNx1, step1⟩
    · refine thnF (T1.done (X.blk s0 H0 scope (compEnvC scope cl Ca X.env) fp) rfl rfl rfl hc j _ s12 (wipe σ8 (tgIds t2)) H12 (fun _ _ => False) I12 (stat1 n12) st12 stop1) fun r s13 ⟨hr, I13⟩ => ?_
      subst hr
      exact fin _ H12 s13 I13 (wipe_length _ _) (fun j v hj e => by rw [wipe_out fun z => hj (b2.hsub j z)]; exact e) nx1
    · refine thnF (T1.item (X.blk s0 H0 scope (compEnvC scope cl Ca X.env) fp) rfl rfl rfl hc j _ s12 (wipe σ8 (tgIds t2)) H12 (fun _ _ => False) I12 (stat1 n12) st12 go1) fun r s13 ⟨u1, hr, h13⟩ => ?_
      subst hr
      refine thnF h13 fun _ s14 ⟨x1, H14, I14, r14, y14, st14, n14⟩ => ?_
      have I14' := I14.pinned (stat1 n14) (T1.obj _ _ st14)
      refine thnF ((b2.hg s0 H0 Ca cl fp).run _ s14 (wipe σ8 (tgIds t2)) H14 x1 u1 _ I14' r14 (step1 x1 H14 y14)) fun _ s15 ⟨σ15, H15, I15, hw15, q15⟩ => ?_
      refine thnF ((b2.ht s0 H0 Ca cl fp).run _ s15 σ15 H15 _ I15 q15) fun b1 s16 ⟨H16, I16, q16⟩ => ?_
      have fin1 : ∀ {s' : Shared} {H' : Hp}, Inv (X.blk s0 H0 scope (compEnvC scope cl Ca X.env) fp) (pins ++ pinsAt fp1 s14.heap) σ15 H' s' → Nx1 H' → ∃ m, m < n ∧ ∃ j H', Inv (X.blk s0 H0 scope (compEnvC scope cl Ca X.env) fp) pins (wipe σ8 (tgIds t2)) H' s' ∧ tn1 j s'.heap ∧ (∀ b ∈ fp1, H' b = none) ∧ W1 j m H' := fun {s' H'} I' nx => by
        obtain ⟨m', hm, w'⟩ := hNx1 H' nx
        have pin' : ∀ b ∈ fp1, ∀ o, s14.heap.get? b = some o → s'.heap.get? b = some o ∧ H' b = none := fun b hb o e =>
          let z := I'.pin (b, o) (List.mem_append_right _ (List.mem_append_right _ (mem_pinsAt hb e)))
          ⟨z.1, z.2.1⟩
        refine ⟨m', hm, j + 1, H', I'.unpinned.weak (by rw [← hw15, wipe_length]) (fun j v e => by rw [← hw15] at e; exact (wipe_some e).1), T1.keep _ _ _ st14 fun b hb o e => (pin' b hb o e).1, fun b hb => ?_, w'⟩
        obtain ⟨o, e, _⟩ := T1.obj _ _ st14 b hb
        exact (pin' b hb o e).2
      cases b1 with
      | false =>
        simp only [Bool.false_eq_true, if_false] at q16 ⊢
        exact fin1 I16 q16
      | true =>
        simp only [if_true] at q16 ⊢
        exact payK_ok (vs := own.map (·.2)) hu he s0 H0 Ca cl fp I16 q16 fun H' s' I' nx => fin1 I' nx
  exact startD1 loop1 (T1.self X.A 0 _ _ _ st11 loop1)
theorem pd_dc2 (hu : X.A.units + 8 < cLine) {k : Nat} {p : Pos} (b : BkOk X T C scope own tg iter ifs t it cond) (b2 : BkOk2 X T C scope own tg2 iter2 ifs2 t2 it2 cond2) (he : ∀ (s : Shared) (H : Hp) (Ca : Addr) (cl : List (Str × Addr)) (fp : List Addr), PDE (X.blk s H scope (compEnvC scope cl Ca X.env) fp) T EF C elt e) :
    PDE X T EF C (.DictComp elt (.Constant (.bool true) k p) [⟨tg, iter, ifs, 0⟩, ⟨tg2, iter2, ifs2, 0⟩] scope pos) (.dc2 e (.mk (own.map (·.2)) t it cond) (.mk o2 t2 it2 cond2)) :=
  (pe_dk (tp := tp2 (C := C) (accD X.K X.w T) e t2 it2 cond2) (pay := fun env R D => payI X.prog X.w X.A R iter2 (.DictComp elt (.Constant (.bool true) k p) [⟨tg, iter, ifs, 0⟩, ⟨tg2, iter2, ifs2, 0⟩] scope pos) D env) b.hc b.hN b.hi b.ok (fun env it D R I turn n s h => loopD_out (b2.hs env) I turn n h) b.hg b.ht (dc2_pay hu b.hc b2 he) b.hs).imp (dc2_read b.hsub)
end
end DL
end
section
set_option Elab.async false
set_option linter.all false
set_option autoImplicit false
set_option maxRecDepth 100000
/-! The data layer, part s: statements. -/
namespace DL
open PySem PySem.Spec PyProof.Rows L2

/-- where a statement leads -/
def After (K : PySem.W.Frag) (w : World) (D : Ends) : Oc → Store → Mu → Hp → Prop := fun o h' μ' H' => match o with
  | .nx ρ' => ∀ σ', EnvR K w h' μ' H' σ' ρ' → D.nx σ' H'
  | .rt d => ∀ v, RpD K w h' μ' H' v d → D.rt v H'
def tG (K : PySem.W.Frag) (w : World) (T : List (Addr × Str)) (m : Rho → M Oc) : TS := fun D σ H => ∃ ρ h μ, EnvR K w h μ H σ ρ ∧ HRel K w T H h μ ∧ Go K w T EF h μ H (m ρ) (After K w D)
abbrev PDS (X : Cx) (T : List (Addr × Str)) (C : Nat → List D → M D) (s : Stmt) (x : Sm) : Prop := PS X s (tG X.K X.w T (denS C x))
abbrev PDSs (X : Cx) (T : List (Addr × Str)) (C : Nat → List D → M D) (s : List Stmt) (x : Sms) : Prop := PSs X s (tG X.K X.w T (denSs C x))
section
variable {X : Cx} {T : List (Addr × Str)} {C : Nat → List D → M D} {pos : Pos}
theorem pdss_nil : PDSs X T C [] .nil := pss_nil.imp fun D σ H ⟨ρ, h, μ, en, R, g⟩ => Go.ret' g R σ en
theorem pdss_cons {s : Stmt} {r : List Stmt} {x : Sm} {y : Sms} (h1 : PDS X T C s x) (h2 : PDSs X T C r y) : PDSs X T C (s :: r) (.cons x y) :=
  (pss_cons h1 h2).imp fun D σ H ⟨ρ, h, μ, en, R, g⟩ => ⟨ρ, h, μ, en, R, (Go.bind g).mono fun o h' μ' H' s1 R1 g1 => by
    cases o with
    | nx ρ' => exact fun σ' en' => ⟨ρ', h', μ', en', R1, g1⟩
    | rt d => exact fun v rv => Go.ret' g1 R1 v rv⟩
theorem pds_pass : PDS X T C (.Pass pos) .pass := ps_pass.imp fun D σ H ⟨ρ, h, μ, en, R, g⟩ => Go.ret' g R σ en
theorem pds_ret {e : Expr} {x : Ex} (he : PDE X T EF C e x) : PDS X T C (.Return (some e) pos) (.ret x) :=
  (ps_ret he).imp fun D σ H ⟨ρ, h, μ, en, R, g⟩ => ⟨ρ, h, μ, en, R, (Go.bind g).mono fun d h' μ' H' s1 R1 g1 v rv => Go.ret' g1 R1 v rv⟩
theorem pds_ex {e : Expr} {x : Ex} (he : PDE X T EF C e x) (hs : swapsWith e none pos.line X.env = pure false) : PDS X T C (.Expr e pos) (.ex x) :=
  (ps_expr he hs).imp fun D σ H ⟨ρ, h, μ, en, R, g⟩ => ⟨ρ, h, μ, en, R, (Go.bind g).mono fun d h' μ' H' s1 R1 g1 v rv => Go.ret' g1 R1 σ (en.step s1)⟩
theorem pds_ite {c : Expr} {a b : List Stmt} {x : Ex} {y z : Sms} (hc : PDT X T EF C c x) (ha : PDSs X T C a y) (hb : PDSs X T C b z) : PDS X T C (.If c a b pos) (.ite x y z) :=
  (ps_if hc ha hb).imp fun D σ H ⟨ρ, h, μ, en, R, g⟩ => ⟨ρ, h, μ, en, R, by
    have g' : Go X.K X.w T EF h μ H (((den C x ρ).bind fun d => .rd fun h => truD h d).bind fun k => if k = true then denSs C y ρ else denSs C z ρ) (After X.K X.w D) := by rw [M.assoc]; exact g
    refine (Go.bind g').mono fun k h' μ' H' s1 R1 g1 => ?_
    by_cases hk : k = true
    · rw [if_pos hk] at g1
      show (if k = true then _ else _)
      rw [if_pos hk]
      exact ⟨ρ, h', μ', en.step s1, R1, g1⟩
    · rw [if_neg hk] at g1
      show (if k = true then _ else _)
      rw [if_neg hk]
      exact ⟨ρ, h', μ', en.step s1, R1, g1⟩⟩
theorem set_read {i : Nat} {te : TE} {x : Ex} (hr : ∀ σ H Q, tD X.K X.w T EF C x σ H Q → te σ H Q) (D : Ends) (σ : L2.St) (H : Hp) (h : tG X.K X.w T (denS C (.set i x)) D σ H) : tAsg te (gName i) D σ H := by
  obtain ⟨ρ, h, μ, en, R, g⟩ := h
  refine hr σ H _ ⟨ρ, h, μ, en, R, (Go.bind g).mono fun d h' μ' H' s1 R1 g1 v rv => ?_⟩
  exact Go.ret' g1 R1 (σ.set i (some v)) ((en.step s1).set i rv)
theorem pds_set {i : Nat} {n : Str} {e : Expr} {x : Ex} {p' : Pos} (hN : X.N.Nodup) (hi : X.N[i]? = some n) (hx : Loc X.env.scope n) (he : PDE X T EF C e x) (hs : swapsWith e (some (.Name n p')) pos.line X.env = pure false) (hf : X.fn n = true ∨ X.env.scope.names.lookup n = some .local) :
    PDS X T C (.Assign [.Name n p'] e pos) (.set i x) := (ps_set hN hi hx he hs hf).imp (set_read fun _ _ _ h => h)
variable {scope : Scope} {own : List (Str × Nat)} {tg iter tg2 iter2 elt : Expr} {ifs ifs2 : List Expr} {t t2 : Tg} {it it2 : DL.It} {cond cond2 : Ox} {e : Ex} {o2 : List Nat}
theorem pds_setLc {i : Nat} {n : Str} {p' cp : Pos} (hi : X.N[i]? = some n) (hx : X.env.scope.names.lookup n = some .local) (b : BkOk X T C scope own tg iter ifs t it cond) (hs : swapsWith (.ListComp elt [⟨tg, iter, ifs, 0⟩] scope cp) (some (.Name n p')) pos.line X.env = pure true)
    (he : ∀ (s : Shared) (H : Hp) (Ca : Addr) (cl : List (Str × Addr)) (fp : List Addr), PDE (X.blk s H scope (compEnvC scope cl Ca X.env) fp) T EF C elt e) : PDS X T C (.Assign [.Name n p'] (.ListComp elt [⟨tg, iter, ifs, 0⟩] scope cp) pos) (.set i (.lc e (.mk (own.map (·.2)) t it cond))) :=
  (ps_setLc b.hc b.hN hi hx hs b.hi b.ok b.hg b.ht he b.hs).imp (set_read (lc_read b.hsub))
theorem pds_setLc2 {i : Nat} {n : Str} {p' cp : Pos} (hi : X.N[i]? = some n) (hx : X.env.scope.names.lookup n = some .local) (b : BkOk X T C scope own tg iter ifs t it cond) (b2 : BkOk2 X T C scope own tg2 iter2 ifs2 t2 it2 cond2)
    (hs : swapsWith (.ListComp elt [⟨tg, iter, ifs, 0⟩, ⟨tg2, iter2, ifs2, 0⟩] scope cp) (some (.Name n p')) pos.line X.env = pure true)
    (he : ∀ (s : Shared) (H : Hp) (Ca : Addr) (cl : List (Str × Addr)) (fp : List Addr), PDE (X.blk s H scope (compEnvC scope cl Ca X.env) fp) T EF C elt e) : PDS X T C (.Assign [.Name n p'] (.ListComp elt [⟨tg, iter, ifs, 0⟩, ⟨tg2, iter2, ifs2, 0⟩] scope cp) pos) (.set i (.lc2 e (.mk (own.map (·.2)) t it cond) (.mk o2 t2 it2 cond2))) :=
  (ps_setLc2 b.hc b.hN hi hx hs b.hi b.ok b2.hsub b.hg b.ht b2.hi b2.hg b2.ht he b.hs b2.hs).imp (set_read (lc2_read b.hsub))
theorem pds_par {i j : Nat} {n m : Str} {a b : Expr} {x y : Ex} {px py pt : Pos} {kt k2 : Nat} {pt2 : Pos} (hc : X.calm = true) (hN : X.N.Nodup) (hi : X.N[i]? = some n) (hj : X.N[j]? = some m) (hij : i ≠ j) (hx : X.env.scope.names.lookup n = some .local) (hy : X.env.scope.names.lookup m = some .local)
    (ha : PDE X T EF C a x) (hb : PDE X T EF C b y) (hn1 : ∀ u v, a ≠ .Starred u v) (hn2 : ∀ u v, b ≠ .Starred u v) (hw : swappedStores [.Tuple [.Name n px, .Name m py] kt pt] (.Tuple [a, b] k2 pt2) X.env = pure (some [n, m])) :
    PDS X T C (.Assign [.Tuple [.Name n px, .Name m py] kt pt] (.Tuple [a, b] k2 pt2) pos) (.par i j x y) :=
  (ps_par hc hN hi hj hij hx hy (pda_cons (E := EF) (T := T) (C := C) ha (pda_cons hb pda_nil hn2) hn1) hw).imp fun D σ H ⟨ρ, h, μ, en, R, g⟩ => ⟨ρ, h, μ, en, R, by
    obtain ⟨o, h', e1, f⟩ := Go.inv g
    obtain ⟨d, h1, e2, e3⟩ := M.bind_inv e1
    obtain ⟨d2, h2, e4, e5⟩ := M.bind_inv e3
    obtain ⟨rfl, rfl⟩ := M.ret_inv e5
    have e6 : dens C (.cons x (.cons y .nil)) ρ h = .ok [d, d2] h' := by
      show ((den C x ρ).bind fun a => ((den C y ρ).bind fun b => (M.ret []).bind fun r => M.ret (b :: r)).bind fun r => M.ret (a :: r)) h = _
      rw [M.bind_ok e2, M.bind_ok (m := (den C y ρ).bind fun b => (M.ret []).bind fun r => M.ret (b :: r)) (a := [d2]) (h' := h') (by rw [M.bind_ok e4]; rfl)]
      rfl
    refine Go.ok e6 fun μ' H' s R' vs rs => ?_
    cases rs with | cons rv rs =>
    obtain ⟨v2, rfl, rv2⟩ := one_rep rs
    exact ⟨_, _, rfl, f μ' H' s R' _ (((en.step s).set i rv).set j rv2)⟩⟩

theorem RpDs.setP {K : PySem.W.Frag} {w : World} {h : Store} {μ : Mu} {H : Hp} {v : V} {d : D} (r : RpD K w h μ H v d) {vs : List V} {ds : List D} (rs : RpDs K w h μ H vs ds) : ∀ j, RpDs K w h μ H (vs.set j v) (ds.set j d) := by
  induction rs with
  | nil => exact fun _ => .nil
  | cons q qs ih =>
    intro j
    cases j with
    | zero => exact .cons r qs
    | succ j => exact .cons q (ih j)
theorem RpD.int {K : PySem.W.Frag} {w : World} {h : Store} {μ : Mu} {H : Hp} {v : V} {k : Int} (r : RpD K w h μ H v (.dat (.int k))) : v = .int k := by
  cases r with | dat r => cases r; rfl
/-! stores in lists -/
theorem asg_read {te to ti : TE} {x y z : Ex} (D : Ends) (σ : L2.St) (H : Hp) (h : tG X.K X.w T (denS C (.sto x y z)) D σ H) : tAsg (tD X.K X.w T EF C z) (gSub (tD X.K X.w T EF C x) (tD X.K X.w T EF C y) rSetL) D σ H := by
  obtain ⟨ρ, h, μ, en, R, g⟩ := h
  refine ⟨ρ, h, μ, en, R, (Go.bind g).mono fun dz h1 μ1 H1 s1 R1 g1 vz rz => ⟨ρ, h1, μ1, en.step s1, R1, (Go.bind g1).mono fun dx h2 μ2 H2 s2 R2 g2 vx rx => ⟨ρ, h2, μ2, (en.step s1).step s2, R2, (Go.bind g2).mono fun dy h3 μ3 H3 s3 R3 g3 vy ry => ?_⟩⟩⟩
  obtain ⟨u, h4, e4, f4⟩ := Go.inv (Go.bind g3)
  have en3 := ((en.step s1).step s2).step s3
  have rx3 := rx.step s3
  have rz3 := (rz.step s2).step s3
  unfold stoD at e4
  split at e4
  · rename_i l k
    split at e4
    · rename_i ds q1
      split at e4
      · rename_i j q2
        cases e4
        obtain ⟨rfl, hl⟩ := mut_rep rx3
        obtain rfl := RpD.int ry
        have ql := lstAt_some q1
        obtain ⟨vs, e5, rs⟩ := R3.obj l ds ql
        have rs' := RpDs.setP rz3 rs j
        obtain ⟨st, R4⟩ := write_step (T := T) R3 ql rs'
        refine ⟨_, vs, k, j, rfl, rfl, e5, by rw [rs.length]; exact q2, ?_⟩
        exact Go.ret' (f4 _ _ st R4) R4 σ (en3.step st)
      · cases e4
    · cases e4
  · cases e4
theorem pds_sto {o i e : Expr} {x y z : Ex} {p' : Pos} (ho : PDE X T EF C o x) (hi : PDE X T EF C i y) (he : PDE X T EF C e z) (hsl : ∀ v, assign (.Subscript o i p') X.env v = (do
      let ov ← holding [v] (eval o X.env)
      let iv ← holding [v, ov] (eval i X.env)
      standAt p'
      holding [v, ov, iv] (setItem ov iv v)
      release [v, ov, iv] [])) (hs : swapsWithSole [.Subscript o i p'] e pos.line X.env = pure false) (hw : swappedStores [.Subscript o i p'] e X.env = pure none) : PDS X T C (.Assign [.Subscript o i p'] e pos) (.sto x y z) :=
  (ps_asg he (pg_sub ho hi set_list hsl) hs hw).imp (asg_read (te := tD X.K X.w T EF C z) (to := tD X.K X.w T EF C x) (ti := tD X.K X.w T EF C y))
def rGetL : V → V → Hp → VK → Prop := fun o i H Q => ∃ p xs k v, o = .ref p ∧ i = .int k ∧ H p = some (.lst xs) ∧ atI xs k = some v ∧ Q v H
theorem get_list : PGet X rGetL := by
  intro pins s σ H o i ov iv Q I ro ri h
  obtain ⟨p, xs, k, z, rfl, rfl, hp, he, q⟩ := h
  cases ro
  obtain ⟨t, rfl⟩ := ri
  obtain ⟨its, r, pl, hz⟩ := I.list (.inl (.inl hp))
  obtain ⟨j, h1, h2, h3, h4, h5⟩ := atI_get he
  obtain ⟨w, ew, rw'⟩ := r.get h2
  have hl := r.length
  have hn := line63
  have fin : EP X pins σ Q w s := ⟨z, H, I, rw', q⟩
  by_cases h0 : 0 ≤ k
  · have hj : k.toNat = j := by
      rw [seqIndex_of h0 h5] at h1
      exact Option.some.inj h1
    exact wpAny_getItem_list pl.isList h0 (by omega) (by rw [hj]; simpa using ew) fin
  · have hj : (k + (its.toArray.size : Int)).toNat = j := by
      rw [seqIndex_neg (by omega) h4] at h1
      rw [List.size_toArray, ← hl]
      exact Option.some.inj h1
    exact wpAny_getItem_list_neg pl.isList (by omega) (by rw [List.size_toArray] <;> omega) (by omega) (by rw [hj]; simpa using ew) fin
/-- x op= y on numbers -/
def tipD (o : Bop) : TIp := match o with
  | .add => ipI fun i j => i + j
  | .sub => ipI fun i j => i - j
  | _ => fun _ _ _ _ => False
theorem ip_D (o : Bop) : PIp X (opOf o) (tipD o) := by
  cases o with
  | add => exact ip_add
  | sub => exact ip_sub
  | _ => exact fun _ _ _ _ _ _ _ _ _ _ _ _ h => h.elim
theorem tip_of {K : PySem.W.Frag} {w : World} {h : Store} {μ : Mu} {H : Hp} {o : Bop} {a b r : D} {v u : V} {Q : VK} (e : opAug o a b = some r) (ra : RpD K w h μ H v a) (rb : RpD K w h μ H u b) (f : ∀ z, RpD K w h μ H z r → Q z H) : tipD o v u H Q := by
  unfold opAug at e
  split at e
  · cases e
    cases ra with | dat ra => cases ra; cases rb with | dat rb => cases rb; exact ⟨_, _, rfl, rfl, f _ (.dat (.int _))⟩
  · cases e
    cases ra with | dat ra => cases ra; cases rb with | dat rb => cases rb; exact ⟨_, _, rfl, rfl, f _ (.dat (.int _))⟩
  · cases e
theorem pds_aug {i : Nat} {n : Str} {e : Expr} {x : Ex} {o : Bop} {p' : Pos} (hN : X.N.Nodup) (hi : X.N[i]? = some n) (hx : Loc X.env.scope n) (he : PDE X T EF C e x) (hf : X.fn n = true ∨ X.env.scope.names.lookup n = some .local) : PDS X T C (.AugAssign (.Name n p') (opOf o) e pos) (.aug i o x) :=
  (ps_aug hN hi hx he (ip_D o) hf).imp fun D σ H ⟨ρ, h, μ, en, R, g⟩ => by
    obtain ⟨d, e1, f1⟩ := Go.opt (Go.bind g)
    obtain ⟨v, e2, r⟩ := en.get i d (join_some e1)
    refine ⟨v, e2, ρ, h, μ, en, R, (Go.bind (f1 μ H .refl R)).mono fun dy h1 μ1 H1 s1 R1 g1 vy ry => ?_⟩
    obtain ⟨r2, e3, f3⟩ := Go.opt (Go.bind g1)
    exact tip_of e3 (r.step s1) ry fun z rz => Go.ret' (f3 μ1 H1 .refl R1) R1 (σ.set i (some z)) ((en.step s1).set i rz)
theorem pds_augs {o i e : Expr} {x y z : Ex} {b : Bop} {tpos : Pos} (ho : PDE X T EF C o x) (hi : PDE X T EF C i y) (he : PDE X T EF C e z) (ha : ∀ ov iv new, augStore i ov iv new = (do holding [new, ov, iv] (setItem ov iv new); release [new, ov, iv] []; pure .next)) : PDS X T C (.AugAssign (.Subscript o i tpos) (opOf b) e pos) (.augs x y b z) :=
  (ps_augS ho hi get_list he (ip_D b) set_list ha).imp fun D σ H ⟨ρ, h, μ, en, R, g⟩ => by
    refine ⟨ρ, h, μ, en, R, (Go.bind g).mono fun dx h1 μ1 H1 s1 R1 g1 vx rx => ⟨ρ, h1, μ1, en.step s1, R1, (Go.bind g1).mono fun dy h2 μ2 H2 s2 R2 g2 vy ry => ?_⟩⟩
    obtain ⟨dw, ew, fw⟩ := Go.rd (Go.bind g2)
    have g3 := fw μ2 H2 .refl R2
    obtain ⟨_, h3, ez, fz⟩ := Go.inv g3
    obtain ⟨dz, h4, e4, e5⟩ := M.bind_inv ez
    obtain ⟨dr, h5, e6, e7⟩ := M.bind_inv e5
    obtain ⟨e6', rfl⟩ := M.opt_inv e6
    obtain ⟨u, h6, e8, e9⟩ := M.bind_inv e7
    obtain ⟨rfl, rfl⟩ := M.ret_inv e9
    have rx2 := rx.step s2
    unfold stoD at e8
    split at e8
    · rename_i l k
      obtain ⟨rfl, hl⟩ := mut_rep rx2
      obtain rfl := RpD.int ry
      obtain ⟨ds0, q0, ew'⟩ := Option.bind_eq_some_iff.mp (show (lstAt h2 l).bind (fun ds => atI ds k) = some dw from ew)
      obtain ⟨vs0, e50, rs0⟩ := R2.obj l ds0 (lstAt_some q0)
      obtain ⟨vw, hvw, rvw⟩ := at_repD rs0 ew'
      refine ⟨_, vs0, k, vw, rfl, rfl, e50, hvw, ρ, h2, μ2, (en.step s1).step s2, R2, Go.ok e4 fun μ4 H4 s4 R4 vz rz => ?_⟩
      refine tip_of e6' (rvw.step s4) rz fun zr rzr => ?_
      have em : μ4 l = μ2 l := s4.mu l hl
      split at e8
      · rename_i ds q1
        split at e8
        · rename_i j q2
          cases e8
          have ql := lstAt_some q1
          obtain ⟨vs, e5', rs⟩ := R4.obj l ds ql
          have rs' := RpDs.setP rzr rs j
          obtain ⟨st, R5⟩ := write_step (T := T) R4 ql rs'
          rw [em] at e5'
          refine ⟨_, vs, k, j, rfl, rfl, e5', by rw [rs.length]; exact q2, ?_⟩
          rw [em] at st R5
          exact fz _ _ (s4.trans st) R5 σ ((((en.step s1).step s2).step s4).step st)
        · cases e8
      · cases e8
    · cases e8

/-! for -/
theorem pds_for {body : List Stmt} {y : Sms} (hp : PassesOwn (model X.prog X.w) X.A X.env X.xe) (hc : X.calm = true) (hi : PI X tg iter (iD X.K X.w T C it)) (hg : PG X tg (gT X.K X.w T t)) (hb : PDSs X T C body y) (hs : ∀ x, foldedSetIterable iter X.env x = pure x) :
    PDS X T C (.For tg iter body [] pos) (.for t it y) :=
  (ps_for hp hc hi hg hb hs).imp fun D σ H ⟨ρ, h, μ, en, R, g⟩ => ⟨ρ, h, μ, en, R, (Go.bind g).mono fun xs h1 μ1 H1 s1 R1 g1 J hJ => by
    obtain ⟨oc, hE, eL, fin⟩ := Go.inv g1
    refine ⟨fun i m σ' Hc => m = xs.length - i ∧ i ≤ xs.length ∧ ∃ ρ' hc μc, EnvR X.K X.w hc μc Hc σ' ρ' ∧ Step h1 μ1 H1 hc μc Hc ∧ HRel X.K X.w T Hc hc μc ∧ loopS (fun x ρ => (M.opt (assignT t ρ x)).bind fun ρ' => denSs C y ρ') (xs.drop i) ρ' hc = .ok oc hE,
      ⟨xs.length, by simp, Nat.zero_le _, ρ, h1, μ1, en.step s1, .refl, R1, eL⟩, ?_⟩
    rintro i m σ' Hc ⟨rfl, hile, ρ', hc', μc, enc, st, Rc, run⟩
    by_cases hlt : i < xs.length
    · right
      obtain ⟨_, hgo⟩ := hJ i hc' μc Hc st.toStepL Rc
      obtain ⟨go, hyl⟩ := hgo xs[i] (List.getElem?_eq_getElem hlt)
      refine ⟨go, fun σ2 H' => ∃ ρ2 h2 μ2, EnvR X.K X.w h2 μ2 H' σ2 ρ2 ∧ Step h1 μ1 H1 h2 μ2 H' ∧ HRel X.K X.w T H' h2 μ2 ∧ loopS (fun x ρ => (M.opt (assignT t ρ x)).bind fun ρ' => denSs C y ρ') (xs.drop (i + 1)) ρ2 h2 = .ok oc hE, fun σ2 H' q => ⟨xs.length - (i + 1), by omega, rfl, hlt, q⟩, fun x H' yy => ?_⟩
      obtain ⟨sy, Ry, ry⟩ := hyl x H' yy
      rw [List.drop_eq_getElem_cons hlt] at run
      obtain ⟨o1, h2, run1, run2⟩ := M.bind_inv run
      obtain ⟨ρ2, hA, eA0, runB⟩ := M.bind_inv run1
      obtain ⟨eA, rfl⟩ := M.opt_inv eA0
      refine ⟨ρ', hA, μc, _, ρ2, enc.step sy, Ry, ry, eA, fun σ3 _ _ en3 => ⟨ρ2, hA, μc, en3, Ry, Go.ok runB fun μ3 H3 s3 R3 => ?_⟩⟩
      cases o1 with
      | nx ρ3 => exact fun σ4 en4 => ⟨ρ3, h2, μ3, en4, (st.trans sy).trans s3, R3, run2⟩
      | rt d =>
        obtain ⟨rfl, rfl⟩ := M.ret_inv run2
        exact fun v rv => fin μ3 H3 ((st.trans sy).trans s3) R3 v rv
    · left
      have hi' : i = xs.length := by omega
      subst hi'
      refine ⟨(hJ _ hc' μc Hc st.toStepL Rc).1 (Nat.le_refl _), ?_⟩
      rw [List.drop_length] at run
      obtain ⟨rfl, rfl⟩ := M.ret_inv run
      exact fin μc Hc st Rc σ' enc⟩
end
end DL
end
section
set_option Elab.async false
set_option linter.all false
set_option autoImplicit false
set_option maxRecDepth 100000
/-! The data layer, part t: alike data can be sorted, empty tuples among them too. -/
namespace DL
open PySem PySem.Spec PyProof.Rows PySem.W PySem.Calls SeqAt

section
variable {prog : Program} {w : World} {A : Around} {s : Shared}
theorem call_tuple_lt {E : Value → Shared → Prop} {Q : Value → Shared → Prop} {l b : Addr} {items items2 : Array Value} {e r : Nat → Bool} (hl : s.heap.IsTuple l items) (hb : s.heap.IsTuple b items2)
    (he : ∀ (j : Nat) (h1 : j < items.size) (h2 : j < items2.size), EqAt A.in1 s items[j] items2[j] (e j)) (hr : ∀ (j : Nat) (h1 : j < items.size) (h2 : j < items2.size), e j = false → RcLt A.in1 s items[j] items2[j] (r j))
    (h : Q (.bool (firstLt e r (decide (items.size < items2.size)) (List.range (min items.size items2.size)))) s) : wpAny (model prog w) A (call (.builtin "tuple.__lt__") [.ref l, .ref b]) Q E s := by
  obtain ⟨⟨c1, d1, dt1, sl1⟩, ho, hc, n, hd⟩ := hl
  obtain ⟨⟨c2, d2, dt2, sl2⟩, ho2, hc2, n2, hd2⟩ := hb
  simp only at hc hd hc2 hd2
  subst hc hd hc2 hd2
  exact call_meets F.slot_tuple_lt ⟨_, ho, rfl⟩ F.entry_tuple_lt (F.args_tuple_lt_2 _ _) (tuple_ltAt l b items items2 n n2 d1 d2 sl1 sl2 e r) ⟨ho, ho2, he, hr, h⟩
theorem oneLt_any {f : Bool} {da db : PyData} {a b : Value} {as bs : List Addr} {E : Value → Shared → Prop} {Q : Bool → Shared → Prop} (ra : Reads s.heap a da as) (rb : Reads s.heap b db bs) (h : alike da db = true) (hn : da ≠ .none)
    (hu : A.units + min da.depth db.depth < cLine) (hq : Q (dataLt da db) s) : wpAny (model prog w) A (oneLt' f a b) Q E s := by
  cases f with
  | false => exact oneLt_alike (fun z => by cases z) ra rb h hn hu hq
  | true =>
    by_cases ht : ∃ xs, da = .tuple xs
    · obtain ⟨xs, rfl⟩ := ht
      cases db with
      | tuple ys =>
        have hal : alikeAll xs ys = true := by simpa [alike] using h
        cases ra with
        | @tuple l o vs n _ as₁ h1 h2 h3 h4 =>
          cases rb with
          | @tuple l' o' vs' n' _ bs₁ k1 k2 k3 k4 =>
            have n1 : vs.size = xs.length := by simpa using ReadsAll.length _ _ _ h4
            have n2 : vs'.size = ys.length := by simpa using ReadsAll.length _ _ _ k4
            rw [dataLt_tuple, ← firstLt_toks xs ys hal, ← n1, ← n2] at hq
            rw [oneLt'_eq]
            simp only [if_true]
            refine wpAny_bind (wpAny_cRoomFor (room_here hu) ?_)
            refine wpAny_bind (wpAny_callSpecialIfBound?_slot (T := "tuple") ⟨_, h1, h2⟩ F.slot_tuple_lt (call_tuple_lt (e := pairEq xs ys) (r := fun j => dataLt (xs.getD j .none) (ys.getD j .none)) ⟨_, h1, h2, _, h3⟩ ⟨_, k1, k2, _, k3⟩ (fun j j1 j2 => ?_) (fun j j1 j2 hj => ?_) ?_))
            · have := eqAt_alikeAll xs ys A.in1 s vs.toList vs'.toList _ _ h4 k4 hal (room_in hu) j (by simpa using j1) (by simpa using j2)
              simpa using this
            · have := rcLt_alikeAll xs ys A.in1 s vs.toList vs'.toList _ _ h4 k4 hal (room_in hu) j (by simpa using j1) (by simpa using j2) hj
              simpa using this
            · exact wpAny_truthy_bool hq
      | _ => exact absurd h (by simp [alike])
    · exact oneLt_alike (fun _ xs e => ht ⟨xs, e⟩) ra rb h hn hu hq
/-- the first items of tuples, some empty -/
theorem firsts_any {M : Model} {E : Value → Shared → Prop} : ∀ (vs : List Value) {Q : List (Option Value) → Shared → Prop}, (∀ v ∈ vs, ∃ a o xs n, v = .ref a ∧ s.heap.get? a = some o ∧ o.cls = .type "tuple" ∧ o.data = .seq xs n) →
    (∀ fs : List (Option Value), fs.length = vs.length → (∀ (i : Nat) (a : Addr) (o : Obj) (xs : Array Value) (n : Nat), vs[i]? = some (.ref a) → s.heap.get? a = some o → o.data = .seq xs n → fs[i]? = some xs[0]?) → Q fs s) → wpAny M A (vs.mapM firstOfTuple') Q E s
  | [], Q, _, h => by rw [List.mapM_nil]; exact wpAny_pure (h [] rfl fun i a o xs n e => by simp at e)
  | v :: vs, Q, t, h => by
    obtain ⟨a, o, xs, n, rfl, ho, hc, hd⟩ := t v List.mem_cons_self
    rw [List.mapM_cons]
    refine wpAny_bind ?_
    rw [kas_first_eq]
    refine wpAny_bind (Looks.here (show Looks M s.heap (typeOf (.ref a)) o.cls from (Looks.ld ho).andThen .now) ?_)
    rw [hc, if_neg (by first | decide | simp)]
    refine wpAny_bind (listItems_at ho hd (wpAny_pure ?_))
    refine wpAny_bind (firsts_any vs (Q := fun bs s' => wpAny M A (pure (xs[0]? :: bs)) Q E s') (fun v hv => t v (List.mem_cons_of_mem _ hv)) fun fs hl hf => wpAny_pure (h _ (by rw [List.length_cons, List.length_cons, hl]) fun i a' o' xs' n' e ho' hd' => ?_))
    cases i with
    | zero =>
      simp at e
      subst e
      rw [ho] at ho'; cases ho'
      rw [hd] at hd'; cases hd'
      rfl
    | succ i =>
      have := hf i a' o' xs' n' (by simpa using e) ho' hd'
      simpa using this
/-- alike data, none of them None: they can be sorted -/
theorem sortsAt {vs : List Value} {ds : List PyData} (e : EachIs (fun v d => ∃ as, Reads s.heap v d as) vs ds) (hal : AllAlike ds) (hn : ∀ d ∈ ds, d ≠ .none) (hu : ∀ d, d ∈ ds → A.units + d.depth < cLine) : SortsAt prog w A s (dataKind s.heap ds) vs := by
  by_cases hs : Sortable ds
  · exact SortsAt.data e hal hs hu
  have room : ∀ {d d' : PyData}, d ∈ ds → A.units + min d.depth d'.depth < cLine := fun {d d'} hd => Nat.lt_of_le_of_lt (Nat.add_le_add_left (Nat.min_le_left _ _) _) (hu d hd)
  -- some is a tuple, hence all are; some is empty
  have hsome : ∃ d ∈ ds, ∃ xs, d = .tuple xs := by
    refine Classical.byContradiction fun h => hs (.inr fun d hd => ⟨hn d hd, fun xs ex => h ⟨d, hd, xs, ex⟩⟩)
  obtain ⟨d0, hd0, xs0, e0⟩ := hsome
  have htup : ∀ d ∈ ds, ∃ xs, d = .tuple xs := fun d hd => by
    have := dataType_alike (hal d hd d0 hd0)
    rw [e0] at this
    cases d with
    | tuple xs => exact ⟨xs, rfl⟩
    | none => exact absurd this (by simp [dataType])
    | bool _ => exact absurd this (by simp [dataType])
    | int _ => exact absurd this (by simp [dataType])
    | str _ => exact absurd this (by simp [dataType])
    | list _ => exact absurd this (by simp [dataType])
    | dict _ => exact absurd this (by simp [dataType])
  have hempty : ∃ d ∈ ds, d = .tuple [] := by
    refine Classical.byContradiction fun h => hs (.inl fun d hd => ?_)
    obtain ⟨xs, ex⟩ := htup d hd
    cases xs with
    | nil => exact absurd ⟨d, hd, ex⟩ h
    | cons x r => exact ⟨x, r, ex⟩
  have hv : ∀ v ∈ vs, ∃ a o xs n, v = .ref a ∧ s.heap.get? a = some o ∧ o.cls = .type "tuple" ∧ o.data = .seq xs n := fun v hv => by
    obtain ⟨d, hd, as, r⟩ := e.left v hv
    obtain ⟨xs, rfl⟩ := htup d hd
    cases r with
    | @tuple a o vs n _ _ h1 h2 h3 h4 => exact ⟨a, o, vs, n, rfl, h1, h2, h3⟩
  have lts : ∀ f, ∀ (E : Value → Shared → Prop) (x y : Value) (a b : (dataKind s.heap ds).α) {Q : Bool → Shared → Prop}, (dataKind s.heap ds).keyOf x = some a → (dataKind s.heap ds).keyOf y = some b → Q ((dataKind s.heap ds).blt a b) s → wpAny (model prog w) A (oneLt' f x y) Q E s := by
    intro f E x y a b Q ha hb hq
    obtain ⟨d, as, hd, ra, rfl⟩ := dataKind_inv ha
    obtain ⟨d', as', hd', rb, rfl⟩ := dataKind_inv hb
    exact oneLt_any ra rb (hal d hd d' hd') (hn d hd) (room hd) hq
  have notall : ∀ fs : List (Option Value), fs.length = vs.length → (∀ (i : Nat) (a : Addr) (o : Obj) (xs : Array Value) (n : Nat), vs[i]? = some (.ref a) → s.heap.get? a = some o → o.data = .seq xs n → fs[i]? = some xs[0]?) → ¬ (fs.toArray.all fun x => x.isSome) = true := by
    intro fs hl hf hall
    obtain ⟨d, hd, rfl⟩ := hempty
    obtain ⟨i, hi⟩ := List.mem_iff_getElem?.mp hd
    have hiv : i < vs.length := by rw [e.length]; exact (List.getElem?_eq_some_iff.mp hi).1
    have hz : (vs[i], PyData.tuple []) ∈ vs.zip ds := List.mem_of_getElem? (i := i) (by rw [List.getElem?_zip_eq_some]; exact ⟨List.getElem?_eq_getElem hiv, hi⟩)
    obtain ⟨as, r⟩ := e.zip _ hz
    have r : Reads s.heap vs[i] (.tuple []) as := r
    generalize hg : vs[i] = u at r
    cases r with
    | @tuple a o ws n _ _ h1 h2 h3 h4 =>
      have h5 : ws.toList = [] := by cases hw : ws.toList with
        | nil => rfl
        | cons x y => rw [hw] at h4; cases h4
      have h6 := hf i a o ws n (by rw [List.getElem?_eq_getElem hiv, hg]) h1 h3
      have h7 : ws[0]? = none := by rw [← Array.getElem?_toList, h5]; rfl
      rw [h7] at h6
      rw [List.all_toArray, List.all_eq_true] at hall
      exact absurd (hall none (List.mem_of_getElem? h6)) (by decide)
  refine ⟨fun v hv => ?_, ?_⟩
  · obtain ⟨d, hd, as, r⟩ := e.left v hv
    exact ⟨_, dataKind_some hal hd r⟩
  · cases hvs : vs with
    | nil => exact ⟨general', fun E x y a b Q ha hb hq => lts false E x y a b ha hb hq, fun h2 => absurd h2 (by simp)⟩
    | cons v0 vr =>
      rw [← hvs]
      obtain ⟨a0, o0, ws0, n0, r1, r2, r3, r4⟩ := hv v0 (by rw [hvs]; exact List.mem_cons_self)
      have h0 : vs[0]? = some (.ref a0) := by rw [hvs, r1]; rfl
      cases hw : ws0[0]? with
      | some f0 =>
        refine ⟨general', fun E x y a b Q ha hb hq => lts false E x y a b ha hb hq, fun h2 E Q hq => ?_⟩
        rw [kat_kind_eq, List.mapM_toArray, map_eq_pure_bind]
        refine wpAny_bind (wpAny_bind (firsts_any vs hv fun fs hl hf => wpAny_pure ?_))
        rw [if_neg (notall fs hl hf)]
        have hf0 := hf 0 a0 o0 ws0 n0 h0 r2 r4
        rw [hw] at hf0
        have : (fs.toArray[0]?.bind id).isSome = true := by rw [List.getElem?_toArray, hf0]; rfl
        rw [if_pos this]
        exact wpAny_pure hq
      | none =>
        refine ⟨oneType', fun E x y a b Q ha hb hq => by rw [keyLt'_oneType]; exact lts true E x y a b ha hb hq, fun h2 E Q hq => ?_⟩
        rw [kat_kind_eq, List.mapM_toArray, map_eq_pure_bind]
        refine wpAny_bind (wpAny_bind (firsts_any vs hv fun fs hl hf => wpAny_pure ?_))
        rw [if_neg (notall fs hl hf)]
        have hf0 := hf 0 a0 o0 ws0 n0 h0 r2 r4
        rw [hw] at hf0
        have : ¬ (fs.toArray[0]?.bind id).isSome = true := by rw [List.getElem?_toArray, hf0]; decide
        rw [if_neg this]
        rw [oneTypeOnly'_eq, List.mapM_toArray, map_eq_pure_bind]
        refine wpAny_bind (wpAny_bind (wpAny_bind (kas_mapM (r := Value.type "tuple") _ (fun v hv' Q' hq' => ?_) (wpAny_pure ?_))))
        · obtain ⟨a, o, ws, n, rfl, q1, q2, q3⟩ := hv v hv'
          exact Looks.here (show Looks _ s.heap (typeOf (.ref a)) (Value.type "tuple") from q2 ▸ (Looks.ld q1).andThen .now) hq'
        · have hall2 : ((List.map (fun _ => Value.type "tuple") vs).toArray.all fun x => x == Value.type "tuple") = true := by
            simp only [List.all_toArray, List.all_map, List.all_eq_true]
            intro _ _
            rfl
          have h00 : (List.map (fun _ => Value.type "tuple") vs).toArray[0]? = some (Value.type "tuple") := by rw [hvs]; simp
          rw [h00]
          simp only [hall2, if_true]
          exact wpAny_pure (wpAny_pure hq)
end
end DL
end
section
set_option Elab.async false
set_option linter.all false
set_option autoImplicit false
set_option maxRecDepth 100000
/-! The data layer, part u: sorted(..), sorted(.., key=f). -/
namespace DL
open PySem PySem.Spec PyProof.Rows PySem.W PySem.Calls L2

section
variable {X : Cx} {pins : List (Addr × Obj)} {σ : L2.St} {H : Hp} {s : Shared} {h' : Heap}
/-- several records of ours have turned, one of them is tracked from here on -/
theorem turnedTrack {t' : Nat} {ch : List Addr} {T : Addr} {ob : HO} (I : Inv X pins σ H s) (k : ∀ b o, b ∉ ch → s.heap.get? b = some o → h'.get? b = some o) (hf : ∀ b ∈ ch, FpOk X pins H b) (hT : T ∈ ch)
    (new : ObjOk X.prog X.w (upd H T ob) h' T ob) : Inv X pins σ (upd H T ob) { s with heap := h', toks := t' } := by
  have hn : H T = none := (hf T hT).1
  have nit : ∀ b u, H b = some u → b ∉ ch := fun b u e z => by
    have q := (hf b z).1
    rw [q] at e; cases e
  refine I.step (g' := s.gens) (d' := s.drawn) (ch := ch) (fun b hb => ⟨(hf b hb).2.2.2.1, (hf b hb).2.1, (hf b hb).2.2.2.2.1, (hf b hb).2.2.2.2.2⟩) (fun b o _ _ hc e _ => k b o hc e) (fun b o _ _ hc e _ => ⟨o.slots, k b o hc e⟩)
    (fun b o hc e n => ?_) (fun b o hc e => ⟨o, k b o hc e⟩) (fun b xs e => ?_) (fun b o u e => ?_) (fun b ps e => ⟨#[], ?_⟩) (fun m hm => ?_) (fun b u e => ?_) I.bare
  · rw [upd_ne (fun z => hc (by rw [z]; exact hT))]; exact n
  · rw [upd_ne (ne_of_none e hn)]; exact e
  · rw [upd_ne (ne_of_none e hn)]; exact e
  · rw [upd_ne (ne_of_none e hn), e]; simp
  · obtain ⟨o, es, ep, ho, r⟩ := hm
    exact ⟨o, es, ep, k _ o (fun z => (hf _ z).2.1 rfl) ho, r⟩
  · by_cases hb : b = T
    · subst hb
      rw [upd_same] at e
      cases e
      exact new
    · rw [upd_ne hb] at e
      refine (I.hok b u e).stay (fun c v hc q => k c v ?_ q) (fun c q => by rw [upd_ne (ne_of_none q hn)]; exact q) fun c xs q => by rw [upd_ne (ne_of_none q hn)]; exact q
      rcases hc with z | z
      · rw [z]; exact nit b u e
      · exact nit c _ z
end

/-! ### sorted by keys, as data -/
section
variable {K : PySem.W.Frag} {L : Addr → Prop} {H : Hp}
theorem RpAll.each {vs : List V} {ds : List PyData} {us : List Value} (r : RpAll K L H vs ds) (q : Vals vs us) : EachIs (fun u d => ∃ v, RelV v u ∧ Rp K L H v d) us ds := by
  induction us generalizing vs ds with
  | nil => cases q; cases r; exact .nil
  | cons u us ih =>
    cases q with
    | cons q qs => cases r with | cons r rs => exact .cons ⟨_, q, r⟩ (ih rs qs)
theorem RpAll.of_each {ds : List PyData} {us : List Value} (e : EachIs (fun u d => ∃ v, RelV v u ∧ Rp K L H v d) us ds) : ∃ vs, RpAll K L H vs ds ∧ Vals vs us := by
  induction e with
  | nil => exact ⟨[], .nil, .nil⟩
  | cons h _ ih =>
    obtain ⟨v, h1, h2⟩ := h
    obtain ⟨vs, h3, h4⟩ := ih
    exact ⟨v :: vs, .cons h2 h3, .cons h1 h4⟩
theorem each_zip {α : Type} {P : α → PyData → Prop} : ∀ {keys : List α} {ks xs : List PyData}, ks.length = xs.length → EachIs P keys ks → EachIs (fun v (p : PyData × PyData) => P v p.1) keys (ks.zip xs)
  | _, _, [], hl, .nil => .nil
  | _, _, x :: xs, hl, .cons a r => .cons a (each_zip (Nat.succ.inj hl) r)
  | _, _, [], hl, .cons _ _ => by cases hl
  | _, _, _ :: _, hl, .nil => by cases hl
theorem sort_out_data {h : Heap} {us : List Value} {keys : List Value} {ks xs : List PyData} (hal : AllAlike ks) (hk : EachIs (fun v d => ∃ as, Reads h v d as) keys ks) (hx : EachIs (fun u d => ∃ v, RelV v u ∧ Rp K L H v d) us xs) (hl : ks.length = xs.length) :
    EachIs (fun u d => ∃ v, RelV v u ∧ Rp K L H v d) (sortVals (dataKind h ks) false keys us) (sortD ks xs) := by
  have z1 : EachIs (fun u (p : PyData × PyData) => ∃ v, RelV v u ∧ Rp K L H v p.2) us (ks.zip xs) := by
    clear hk hal
    induction hx generalizing ks with
    | nil => rw [List.zip_nil_right]; exact .nil
    | cons a _ ih =>
      cases ks with
      | nil => cases hl
      | cons k ks => exact .cons a (ih (Nat.succ.inj hl))
  have z2 : EachIs (fun v (p : PyData × PyData) => (dataKind h ks).keyOf v = some (keyToks p.1)) keys (ks.zip xs) := by
    have hk' : EachIs (fun v d => (dataKind h ks).keyOf v = some (keyToks d)) keys ks := by
      refine EachIs.of_zip hk.length fun p hp => ?_
      obtain ⟨as, r⟩ := hk.zip p hp
      exact dataKind_some hal (List.of_mem_zip hp).2 r
    exact each_zip hl hk'
  have e := sortVals_each (κ := dataKind h ks) (rev := false) (fun p : PyData × PyData => (keyToks p.1 : (dataKind h ks).α)) z1 z2
  have e2 : (ks.zip xs).mergeSort (sortLe (dataKind h ks).toKeyOrd false fun p : PyData × PyData => keyToks p.1) = (ks.zip xs).mergeSort fun a b => !PySem.W.dataLt b.1 a.1 := rfl
  rw [e2] at e
  unfold sortD
  generalize (ks.zip xs).mergeSort (fun a b => !PySem.W.dataLt b.1 a.1) = m at e ⊢
  clear z1 z2 e2 hk hx hl
  generalize sortVals (dataKind h ks) false keys us = out at e ⊢
  induction e with
  | nil => exact .nil
  | cons a _ ih => exact .cons a ih
theorem sortOk_all {ks : List PyData} (h : sortOk ks = true) : AllAlike ks ∧ (∀ d ∈ ks, d ≠ .none) ∧ (∀ d ∈ ks, d.depth ≤ 64) ∧ ks.length ≤ sizeLine := by
  unfold sortOk allAlike at h
  simp only [Bool.and_eq_true, List.all_eq_true, decide_eq_true_eq] at h
  obtain ⟨⟨h1, h2⟩, h3⟩ := h
  exact ⟨fun d hd d' hd' => h1 d hd d' hd', fun d hd z => (by have := (h2 d hd).2; rw [z] at this; cases this), fun d hd => (h2 d hd).1, by rw [sizeLine_eq]; exact h3⟩
end

section
variable {X : Cx} {T : List (Addr × Str)}
/-- sorted's shell: the items are collected, laid in a new list, the list is sorted -/
theorem sorted_shell {A : Around} {E : Value → Shared → Prop} {s : Shared} {u : Value} {kw : List (Str × Value)} {Q : Value → Shared → Prop} (ha1 : argsOk "sorted" ⟨[u], kw⟩) (ha2 : ∀ x, argsOk "list.sort" ⟨[.ref x], kw⟩)
    (hcol : wpAny (model X.prog X.w) A.in1 (collect u) (fun its s1 => its.length ≤ sizeLine ∧ wpAny (model X.prog X.w) A.in1.in1 (Builtin.«list.sort» ⟨[.ref s1.heap.objs.size], kw⟩) (fun f s' => f = .done (.ret .none) ∧ Q (.ref s1.heap.objs.size) s') E { s1 with heap := s1.heap.push (seqObj "list" its.toArray 0) }) E s) :
    wpAny (model X.prog X.w) A (call (.builtin "sorted") [u] kw) Q E s := by
  refine call_function_entry_kw kind_sorted plain_sorted entry_sorted ha1 ?_
  unfold Builtin.«sorted»
  refine wpAny_bind (m := checkCount "sorted" 1 1 _) (wpAny_pure ?_)
  refine wpAny_bind (wpAny_mono hcol (fun its s1 ⟨hL, hq⟩ => ?_) fun _ _ z => z)
  refine wpAny_bind (wpAny_newList ?_ hL)
  refine wpAny_bind (wpAny_holding (wpAny_call_entry_kw slot_list_sort ⟨_, Heap.get?_push_size _ rfl, rfl⟩ entry_list_sort ?body (ha2 _)))
  case body =>
    refine wpAny_mono hq (fun f s' hf => ?_) fun _ _ e => e
    obtain ⟨rfl, hq⟩ := hf
    exact ⟨_, rfl, wpAny_pure ⟨_, rfl, hq⟩⟩
/-- sorted(u) -/
theorem srt_plain {pins : List (Addr × Obj)} {σ : L2.St} {H : Hp} {s : Shared} {h : Store} {μ : Mu} {u : Value} {out : List PyData} {Q : VK} (hu : X.A.units + 66 < cLine) (R : HRel X.K X.w T H h μ) (f : Fin X.K X.w T h μ H (.dat (.list out)) Q) (ha1 : argsOk "sorted" ⟨[u], []⟩)
    (hcol : wpAny (model X.prog X.w) X.A.in1 (collect u) (fun its s1 => Inv X pins σ H s1 ∧ ∃ ws xs, Vals ws its ∧ RpAll X.K (Lv h μ) H ws xs ∧ sortOk xs = true ∧ sortD xs xs = out) X.xe s) :
    wpAny (model X.prog X.w) X.A (call (.builtin "sorted") [u]) (EP X pins σ Q) X.xe s := by
  refine sorted_shell ha1 (fun _ => args_list_sort _) (wpAny_mono hcol (fun its s1 ⟨I1, ws, xs, rv, rr, ok, eo⟩ => ?_) fun _ _ z => z)
  obtain ⟨hal, hnn, hdp, hL⟩ := sortOk_all ok
  have hil : its.length = xs.length := by rw [← rv.length, rr.length]
  refine ⟨by rw [hil]; exact hL, ?_⟩
  have ho : (s1.heap.push (seqObj "list" its.toArray 0)).get? s1.heap.objs.size = some (seqObj "list" its.toArray 0) := Heap.get?_push_size _ rfl
  have old : ∀ b o, s1.heap.get? b = some o → (sortingHeap (s1.heap.push (seqObj "list" its.toArray 0)) s1.heap.objs.size its).get? b = some o := fun b o q => sortingHeap_old (Nat.ne_of_lt (Heap.lt_size q)) (Heap.get?_push_of_some _ q)
  have er : EachIs (fun v d => ∃ as, Reads (sortingHeap (s1.heap.push (seqObj "list" its.toArray 0)) s1.heap.objs.size its) v d as) its xs := (rr.each rv).mono fun v d ⟨w, h1, h2⟩ => by
    obtain ⟨as, r⟩ := Dp.reads I1 d w v h2.dp h1
    exact ⟨as, PyProof.Rows.Reads.keeps old r⟩
  have S := sortsAt (prog := X.prog) (w := X.w) (A := X.A.in1.in1) (s := { s1 with heap := sortingHeap (s1.heap.push (seqObj "list" its.toArray 0)) s1.heap.objs.size its }) er hal hnn (fun d hd => by have := hdp d hd; simp only [Around.in1_units]; omega)
  refine list_sort_vals (s := { s1 with heap := s1.heap.push (seqObj "list" its.toArray 0) }) ho S (by rw [hil]; exact hL) ⟨rfl, ?_⟩
  obtain ⟨ys, y1, y2⟩ := RpAll.of_each (sort_out_data hal er (rr.each rv) rfl)
  rw [eo] at y1
  obtain ⟨e, he⟩ := PyProof.Rows.sortedHeap_at (vs := its) (out := (sortVals (dataKind (sortingHeap (s1.heap.push (seqObj "list" its.toArray 0)) s1.heap.objs.size its) xs) false its its).toArray) ho
  have hn : H s1.heap.objs.size = none := I1.hok.fresh (Nat.le_refl _)
  refine ⟨.ref s1.heap.objs.size, upd H s1.heap.objs.size (.lst ys), I1.laid (t' := s1.toks) (fun b o q => ?_) (Nat.le_refl _) ⟨?_, _, e, y2, he⟩, rfl, f.new R hn (new_lst hn R y1)⟩
  · have hb : b < s1.heap.objs.size := Heap.lt_size q
    show (PyProof.Rows.sortedHeap (s1.heap.push (seqObj "list" its.toArray 0)) s1.heap.objs.size its _).get? b = some o
    rw [PyProof.Rows.sortedHeap_old (Nat.ne_of_lt hb) (by rw [size_push']; exact Nat.lt_succ_of_lt hb)]
    exact Heap.get?_push_of_some _ q
  · rw [y2.length, sortVals_length false rfl, hil]; exact hL
/-- what a key function does, item by item -/
def KeyTurn (X : Cx) (T : List (Addr × Str)) (PP : Hp → Prop) (σ : L2.St) (fv : Value) (kM : PyData → M D) : Prop :=
  ∀ (pins : List (Addr × Obj)) (s : Shared) (H : Hp) (h h2 : Store) (μ : Mu) (v : V) (u : Value) (d y : PyData), PP H → Inv X pins σ H s → HRel X.K X.w T H h μ → RelV v u → Rp X.K (Lv h μ) H v d → kM d h = .ok (.dat y) h2 →
    wpAny (model X.prog X.w) X.A.in1.in1 (call fv [u]) (fun w s2 => ∃ v2 H2 μ2, PP H2 ∧ Inv X pins σ H2 s2 ∧ Step h μ H h2 μ2 H2 ∧ HRel X.K X.w T H2 h2 μ2 ∧ RelV v2 w ∧ Rp X.K (Lv h2 μ2) H2 v2 y) (fun _ _ => False) s
theorem mapM_cons_inv {kM : PyData → M D} {x : PyData} {r ks : List PyData} {h hE : Store} (e : mapM' kM (x :: r) h = .ok ks hE) : ∃ y ks' h1, kM x h = .ok (.dat y) h1 ∧ mapM' kM r h1 = .ok ks' hE ∧ ks = y :: ks' := by
  obtain ⟨y, h1, e1, e2⟩ := M.bind_inv (show ((kM x).bind fun y => match y with | .dat d => (mapM' kM r).bind fun ds => M.ret (d :: ds) | _ => M.no) h = .ok ks hE from e)
  cases y with
  | dat d =>
    obtain ⟨ks', h2, e3, e4⟩ := M.bind_inv (show ((mapM' kM r).bind fun ds => M.ret (d :: ds)) h1 = .ok ks hE from e2)
    obtain ⟨rfl, rfl⟩ := M.ret_inv e4
    exact ⟨d, ks', h1, e1, e3, rfl⟩
  | _ => cases e2
end
end DL
end
section
set_option Elab.async false
set_option linter.all false
set_option autoImplicit false
set_option maxRecDepth 100000
/-! The data layer, part v: sorted(.., key=f). -/
namespace DL
open PySem PySem.Spec PyProof.Rows PySem.W PySem.Calls L2
section
variable {X : Cx} {T : List (Addr × Str)}
theorem mapM_len {kM : PyData → M D} : ∀ {xs ks : List PyData} {h hE : Store}, mapM' kM xs h = .ok ks hE → ks.length = xs.length
  | [], ks, h, hE, e => by obtain ⟨rfl, rfl⟩ := M.ret_inv e; rfl
  | x :: r, ks, h, hE, e => by
    obtain ⟨y, ks', h1, e1, e2, rfl⟩ := mapM_cons_inv e
    rw [List.length_cons, List.length_cons, mapM_len e2]
/-- sorted(u, key=f) -/
theorem srt_keyed {pins : List (Addr × Obj)} {σ : L2.St} {H : Hp} {s : Shared} {h hE : Store} {μ : Mu} {u fv : Value} {kw : List (Str × Value)} {xs ks : List PyData} {kM : PyData → M D} {Q : VK} {PP : Hp → Prop} (hP : PP H) (hu : X.A.units + 66 < cLine) (R : HRel X.K X.w T H h μ)
    (ha1 : argsOk "sorted" ⟨[u], kw⟩) (ha2 : ∀ x, argsOk "list.sort" ⟨[.ref x], kw⟩) (ht : ∀ x, Builtin.«list.sort» ⟨[.ref x], kw⟩ = ksk_tree x fv false) (turn : KeyTurn X T PP σ fv kM) (run : mapM' kM xs h = .ok ks hE) (ok : sortOk ks = true)
    (f : ∀ μ' H', Step h μ H hE μ' H' → HRel X.K X.w T H' hE μ' → ∀ v, RpD X.K X.w hE μ' H' v (.dat (.list (sortD ks xs))) → Q v H')
    (hcol : wpAny (model X.prog X.w) X.A.in1 (collect u) (fun its s1 => Inv X pins σ H s1 ∧ ∃ ws, Vals ws its ∧ RpAll X.K (Lv h μ) H ws xs) X.xe s) :
    wpAny (model X.prog X.w) X.A (call (.builtin "sorted") [u] kw) (EP X pins σ Q) X.xe s := by
  obtain ⟨hal, hnn, hdp, hL⟩ := sortOk_all ok
  have hkl := mapM_len run
  refine sorted_shell ha1 ha2 (wpAny_mono hcol (fun its s1 ⟨I1, ws, rv, rr⟩ => ?_) fun _ _ z => z)
  have hil : its.length = xs.length := by rw [← rv.length, rr.length]
  have hZ : its.length ≤ sizeLine := by rw [hil, ← hkl]; exact hL
  refine ⟨hZ, ?_⟩
  rw [ht]
  generalize ha : s1.heap.objs.size = a
  have ho : (s1.heap.push (seqObj "list" its.toArray 0)).get? a = some (seqObj "list" its.toArray 0) := by rw [← ha]; exact Heap.get?_push_size _ rfl
  obtain ⟨e1, ho1⟩ : ∃ e1, ((s1.heap.push (seqObj "list" its.toArray 0)).update a (Obj.mapSeq fun _ => (#[] : Array Value))).get? a = some (seqObj "list" #[] e1) := ⟨_, get?_update_seq ho fun _ => #[]⟩
  have hkS : (((s1.heap.push (seqObj "list" its.toArray 0)).update a (Obj.mapSeq fun _ => (#[] : Array Value))).push (seqObj "tuple" its.toArray 0)).objs.size = a + 2 := by rw [size_push', Heap.size_update, size_push', ha]
  unfold ksk_tree
  refine wpAny_bind (listItems_at (s := { s1 with heap := s1.heap.push (seqObj "list" its.toArray 0) }) ho rfl ?_)
  refine wpAny_bind (listUpdate_at (s := { s1 with heap := s1.heap.push (seqObj "list" its.toArray 0) }) ho rfl ?_ (by rw [List.size_toArray]; exact hZ) (Nat.zero_le _))
  refine wpAny_bind (seqEpoch_at ho1 rfl ?_)
  refine wpAny_bind (wpAny_newTuple ?_ (by show its.length ≤ _; exact hZ))
  refine wpAny_bind (wpAny_newList ?_ (Nat.zero_le _))
  refine wpAny_holding ?_
  have old : ∀ b o, s1.heap.get? b = some o → (sortingHeap (s1.heap.push (seqObj "list" its.toArray 0)) a its).get? b = some o := fun b o q => sortingHeap_old (by rw [← ha]; exact Nat.ne_of_lt (Heap.lt_size q)) (Heap.get?_push_of_some _ q)
  have hkS' : (sortingHeap (s1.heap.push (seqObj "list" its.toArray 0)) a its).get? (a + 2) = some (seqObj "list" #[] 0) := by
    unfold sortingHeap
    rw [← hkS]
    exact Heap.get?_push_size _ rfl
  have ha' : (sortingHeap (s1.heap.push (seqObj "list" its.toArray 0)) a its).get? a = some (seqObj "list" #[] e1) := by
    unfold sortingHeap
    exact Heap.get?_push_of_some _ (Heap.get?_push_of_some _ ho1)
  have nka : a + 2 ≠ a := by omega
  have fpa : FpOk X pins H a := I1.fpOk (Nat.le_of_eq ha) (I1.hok.fresh (Nat.le_of_eq ha))
  have fpk : FpOk X pins H (a + 2) := I1.fpOk (by rw [ha]; omega) (I1.hok.fresh (by rw [ha]; omega))
  rw [hkS]
  show wpAny (model X.prog X.w) X.A.in1.in1 (ksk_rest a fv false its.toArray e1 (.ref (a + 2))) _ X.xe { s1 with heap := sortingHeap (s1.heap.push (seqObj "list" its.toArray 0)) a its }
  have I2 : Inv X pins σ H { s1 with heap := sortingHeap (s1.heap.push (seqObj "list" its.toArray 0)) a its } := I1.kept (t' := s1.toks) old
  generalize hs2 : ({ s1 with heap := sortingHeap (s1.heap.push (seqObj "list" its.toArray 0)) a its } : Shared) = s2 at I2 ⊢
  have hkS2 : s2.heap.get? (a + 2) = some (seqObj "list" #[] 0) := by rw [← hs2]; exact hkS'
  have ha2' : s2.heap.get? a = some (seqObj "list" #[] e1) := by rw [← hs2]; exact ha'
  clear hs2 ho ho1 hkS hkS' ha' old I1
  unfold ksk_rest
  refine wpAny_bind (wpAny_rule ?_)
  first
    | rw [List.forIn_toArray]
    | (rw [← Array.forIn_toList]; simp only [List.toList_toArray])
    | rw [← Array.forIn_toList]
  refine wpAny_bind (ksk_fold (fun i s' => ∃ hi μi Hi kA e wk ksi ksr, PP Hi ∧ Inv X pins σ Hi s' ∧ s'.heap.get? (a + 2) = some (seqObj "list" kA e) ∧ s'.heap.get? a = some (seqObj "list" #[] e1) ∧ Hi a = none ∧ Hi (a + 2) = none ∧ Step h μ H hi μi Hi ∧ HRel X.K X.w T Hi hi μi ∧
      Vals wk kA.toList ∧ RpAll X.K (Lv hi μi) Hi wk ksi ∧ ksi.length = i ∧ mapM' kM (xs.drop i) hi = .ok ksr hE ∧ ks = ksi ++ ksr) its 0 s2
    ⟨h, μ, H, #[], 0, [], [], ks, hP, I2, hkS2, ha2', fpa.1, fpk.1, .refl, R, .nil, .nil, rfl, run, rfl⟩ ?step ?done)
  case step =>
    rintro j x s' hx ⟨hi, μi, Hi, kA, e, wk, ksi, ksr, hPi, Ii, nk, na, fa, fk, st, Ri, vk, rk, hlk, rn, eks⟩
    simp only [Nat.zero_add] at hlk rn ⊢
    have hj : j < its.length := (List.getElem?_eq_some_iff.mp hx).1
    have hjx : j < xs.length := by omega
    rw [List.drop_eq_getElem_cons hjx] at rn
    obtain ⟨y, ksr', h2, q1, q2, q3⟩ := mapM_cons_inv rn
    -- the item
    obtain ⟨v, hv, rvd⟩ := rr.get (List.getElem?_eq_getElem hjx)
    obtain ⟨u', hu', ru⟩ := rv.get hv
    rw [hx] at hu'
    have hu' := Option.some.inj hu'
    rw [← hu'] at ru
    have fps : ∀ b ∈ [a + 2, a], FpOk X pins Hi b := fun b hb => by
      rcases List.mem_cons.mp hb with z | z
      · rw [z]; exact ⟨fk, fpk.2⟩
      · rw [List.mem_singleton.mp z]; exact ⟨fa, fpa.2⟩
    have obj : ∀ b ∈ [a + 2, a], ∃ o, s'.heap.get? b = some o ∧ ∀ v, o.data ≠ .cell v := fun b hb => by
      rcases List.mem_cons.mp hb with z | z
      · rw [z]; exact ⟨_, nk, fun v q => by cases q⟩
      · rw [List.mem_singleton.mp z]; exact ⟨_, na, fun v q => by cases q⟩
    have Ip := Ii.pinned fps obj
    refine wpAny_bind (wpAny_attempt (wpAny_mono (turn _ s' Hi hi h2 μi v x xs[j] y hPi Ip Ri ru (rvd.step st) q1) (fun w s3 hw => ?_) fun _ _ hF => hF.elim))
    obtain ⟨v2, H2, μ2, hP2, I3, st2, R2, rw2, ry⟩ := hw
    try dsimp only
    have nk3 := I3.pin (a + 2, seqObj "list" kA e) (List.mem_append_right _ (List.mem_append_right _ (mem_pinsAt (by simp) nk)))
    have na3 := I3.pin (a, seqObj "list" #[] e1) (List.mem_append_right _ (List.mem_append_right _ (mem_pinsAt (by simp) na)))
    have I4 : Inv X pins σ H2 s3 := I3.unpinned
    have hz : kA.size ≤ its.length := by
      have q7 : wk.length = kA.size := by rw [← Array.length_toList]; exact Paired.length vk
      have q8 : wk.length = ksi.length := rk.length
      omega
    have s1' := Heap.SameBut.update s3.heap (a + 2) (Obj.mapSeq (·.push w))
    obtain ⟨c2, hc2⟩ : ∃ c2, (s3.heap.update (a + 2) (Obj.mapSeq (·.push w))).get? (a + 2) = some (seqObj "list" (kA.push w) c2) := ⟨_, get?_update_seq nk3.1 (·.push w)⟩
    refine wpAny_bind (listUpdate_at nk3.1 rfl ?_ (Nat.le_trans hz hZ) (Nat.le_trans (Nat.le_of_eq (Array.size_push ..)) (Nat.succ_le_succ (Nat.le_trans hz hZ))))
    refine wpAny_pure ⟨rfl, h2, μ2, H2, kA.push w, c2, wk ++ [v2], ksi ++ [y], ksr', hP2, ?_, hc2, (s1'.2 a nka.symm).trans na3.1, na3.2.1, nk3.2.1, st.trans st2, R2, ?_, (rk.step st2).append (.cons ry .nil), by rw [List.length_append, hlk]; rfl, q2, by rw [eks, q3, List.append_assoc]; rfl⟩
    · exact I4.turned (t' := s3.toks) (it := a + 2) (fun b o hb q => (s1'.2 b hb).trans q) nk3.2.1 fpk.2.1 fpk.2.2.2.1 fpk.2.2.2.2.1 fpk.2.2.2.2.2
    · rw [Array.toList_push]
      exact vk.append (.cons rw2 .nil)
  case done =>
    rintro s' ⟨hi, μi, Hi, kA, e, wk, ksi, ksr, hPi, Ii, nk, na, fa, fk, st, Ri, vk, rk, hlk, rn, eks⟩
    simp only [Nat.zero_add] at hlk rn
    have e3 : xs.drop its.length = [] := List.drop_of_length_le (by omega)
    rw [e3] at rn
    obtain ⟨rfl, rfl⟩ := M.ret_inv rn
    rw [List.append_nil] at eks
    subst eks
    have hsz : kA.size = its.length := by
      have q7 : wk.length = kA.size := by rw [← Array.length_toList]; exact Paired.length vk
      have q8 : wk.length = ks.length := rk.length
      omega
    try dsimp only
    refine wpAny_bind (listItems_at nk rfl ?_)
    have er : EachIs (fun v d => ∃ as, Reads s'.heap v d as) kA.toList ks := (rk.each vk).mono fun v d ⟨w, h1, h2⟩ => Dp.reads Ii d w v h2.dp h1
    have S := sortsAt (prog := X.prog) (w := X.w) (A := X.A.in1.in1) (s := s') er hal hnn (fun d hd => by have := hdp d hd; simp only [Around.in1_units]; omega)
    obtain ⟨G, g1, g2⟩ := restrict s'.heap fun b => decide (b ≠ a) && decide (b ≠ a + 2)
    have gk : ∀ b o, b ≠ a → b ≠ a + 2 → s'.heap.get? b = some o → G.get? b = some o := fun b o n1 n2 q => by
      rw [g1 b (by simp [n1, n2])]; exact q
    refine keyH_end (h₁ := G) (κ := dataKind s'.heap ks) (fun b o hb q => ?_) (g2 _ (by simp)) nk na nka S hsz hZ fun h' tk c kp hD => ⟨rfl, ?_⟩
    · by_cases z : b = a + 2
      · rw [z, g2 _ (by simp)] at q; cases q
      · rw [g1 b (by simp [hb, z])] at q; exact q
    obtain ⟨ys, y1, y2⟩ := RpAll.of_each (sort_out_data hal er ((rr.step st).each rv) hkl)
    have new : ObjOk X.prog X.w (upd Hi a (.lst ys)) h' a (.lst ys) := ⟨by rw [y2.length, sortVals_length false (by rw [Array.length_toList]; exact hsz)]; exact hZ, _, c, y2, hD⟩
    have I5 := turnedTrack (t' := tk) (ch := [a + 2, a]) (T := a) Ii (fun b o hb q => kp b o (fun z => hb (by simp [z])) (gk b o (fun z => hb (by simp [z])) (fun z => hb (by simp [z])) q)) (fun b hb => by
      rcases List.mem_cons.mp hb with z | z
      · rw [z]; exact ⟨fk, fpk.2⟩
      · rw [List.mem_singleton.mp z]; exact ⟨fa, fpa.2⟩) (by simp) new
    have nl := new_lst fa Ri y1
    exact ⟨.ref a, _, I5, rfl, f μi _ (st.trans (.new fa)) (Ri.new fa) _ nl⟩
end
end DL
end
section
set_option Elab.async false
set_option linter.all false
set_option autoImplicit false
set_option maxRecDepth 100000
/-! The data layer, part w: sets of texts. -/
namespace DL
open PySem PySem.Spec PyProof.Rows L2

section
variable {P : Program} {w : World} {h h' : Heap} {a : Addr} {l : List Str}
theorem SetS.at (R : SetS w h a l) (k : ∀ o, h.get? a = some o → h'.get? a = some o) : SetS w h' a l := by
  obtain ⟨o, es, ep, t, ho, r⟩ := R
  exact ⟨o, es, ep, t, k o ho, r⟩
theorem SetS.lt (R : SetS w h a l) : a < h.objs.size := by
  obtain ⟨o, es, ep, t, ho, r⟩ := R
  exact Heap.lt_size ho
theorem elemsS {es : List (Int × Value)} (g : ∀ e ∈ es, ∃ k u, e.2 = Value.str k u ∧ e.1 = hashStr w k) : ElemsOf (strKind P w) es := fun e he => by
  obtain ⟨k, u, h1, h2⟩ := g e he
  exact ⟨⟨k, by rw [h1]; exact PySem.Froz.is_str k u, h2⟩, by rw [h1] <;> rfl⟩
theorem memS {es : List (Int × Value)} {l' : List Str} (e : PySem.W.EachIs (fun (e : Int × Value) k => ∃ u, e.2 = .str k u) es l') (k : Str) : k ∈ l' ↔ ∃ e ∈ es, (strKind P w).is k e.2 = true := by
  induction e with
  | nil => simp
  | @cons e' k' es ls r _ ih =>
    obtain ⟨u, hu⟩ := r
    have hk : (strKind P w).is k e'.2 = true ↔ k = k' := by
      rw [hu]
      constructor
      · intro z; exact (strKind P w).inj (.str k' u) k k' z (PySem.Froz.is_str k' u)
      · intro z; rw [z]; exact PySem.Froz.is_str k' u
    rw [List.mem_cons, ih]
    constructor
    · rintro (z | ⟨e, he, q⟩)
      · exact ⟨e', List.mem_cons_self, hk.mpr z⟩
      · exact ⟨e, List.mem_cons_of_mem _ he, q⟩
    · rintro ⟨e, he, q⟩
      rcases List.mem_cons.mp he with z | z
      · rw [z] at q; exact .inl (hk.mp q)
      · exact .inr ⟨e, z, q⟩
theorem each_perm {α β : Type} {R : α → β → Prop} {as as' : List α} (p : as'.Perm as) : ∀ {bs : List β}, PySem.W.EachIs R as bs → ∃ bs', bs'.Perm bs ∧ PySem.W.EachIs R as' bs' := by
  induction p with
  | nil => exact fun e => ⟨_, .refl _, e⟩
  | cons x _ ih =>
    intro bs e
    cases e with
    | cons r e =>
      obtain ⟨bs', p, e'⟩ := ih e
      exact ⟨_ :: bs', p.cons _, .cons r e'⟩
  | swap x y l =>
    intro bs e
    cases e with
    | cons r e => cases e with | cons r' e => exact ⟨_ :: _ :: _, List.Perm.swap _ _ _, .cons r' (.cons r e)⟩
  | trans _ _ ih1 ih2 =>
    intro bs e
    obtain ⟨b1, p1, e1⟩ := ih2 e
    obtain ⟨b2, p2, e2⟩ := ih1 e1
    exact ⟨b2, p2.trans p1, e2⟩
end
section
variable {P : Program} {w : World} {A : Around} {E : Value → Shared → Prop} {s : Shared} {a : Addr} {l : List Str}
theorem setS_tail {g : Bool → Sem Unit} (hg : ∀ (b : Bool) (s₁ : Shared) (Q' : Unit → Shared → Prop), Q' () s₁ → wpAny (model P w) A (g b) Q' E s₁)
    {o : Obj} {es : Array (Int × Value)} {ep : Nat} {t : SetTable} (ho : s.heap.get? a = some o) (hex : o.ExactSet) (hd : o.data = .set es ep t)
    {es1 : Array (Int × Value)} {t2 : SetTable} {l' : List Str} (g1 : ∀ e ∈ es1.toList, ∃ k u, e.2 = Value.str k u ∧ e.1 = hashStr w k) (m1 : ∃ l'' : List Str, l''.Perm l' ∧ PySem.W.EachIs (fun (e : Int × Value) k => ∃ u, e.2 = .str k u) es1.toList l'') (nd1 : l'.Nodup)
    (hb1 : es1.size < scanBound) (hf2 : t2.fits es1.size = true) (hr : Ris t2.place.toList) (hl : w.params.followText "set-order" = true ∨ t2.led = true) {wasDummy : Bool} {R : Option Bool → Shared → Prop}
    (hR : ∀ h', Heap.SameBut a s.heap h' → SetS w h' a l' → R (some true) { s with heap := h' }) :
    wpAny (model P w) A (do
        storeSet a es1 t2
        if (!wasDummy && t2.tooFull) = true then do
            g (relayAll t2 es1 (SetTable.grown es1.size)).2.2
            storeSet a (relayAll t2 es1 (SetTable.grown es1.size)).1 (relayAll t2 es1 (SetTable.grown es1.size)).2.1
            pure (some true)
          else pure (some true)) R E s := by
  refine wpAny_bind (wpAny_storeSet_of ho hd ?_ (fits_of_scanBound hb1))
  have ho1 := L2.store_at (es' := es1) (t' := t2) ho hd
  have sb1 := Heap.SameBut.update s.heap a (Obj.putSet es1 t2)
  split
  · have pm := relayAll_perm t2 es1 (SetTable.grown es1.size)
    have hf3 := relayAll_fits t2 es1 (SetTable.grown es1.size)
    have hr3 := relayAll_ris t2 es1 (SetTable.grown es1.size)
    have hl3 := relayAll_led t2 es1 (SetTable.grown es1.size)
    generalize relayAll t2 es1 (SetTable.grown es1.size) = Z at pm hf3 hr3 hl3 ⊢
    obtain ⟨es2, t3, gave⟩ := Z
    dsimp only at pm hf3 hr3 hl3 ⊢
    have hsz : es2.size = es1.size := by rw [← Array.length_toList, pm.length_eq, Array.length_toList]
    have hb2 : es2.size < scanBound := by rw [hsz]; exact hb1
    refine wpAny_bind (hg _ _ _ ?_)
    refine wpAny_bind (wpAny_storeSet_of ho1 rfl ?_ (fits_of_scanBound hb2))
    have ho2 := L2.store_at (es' := es2) (t' := t3) ho1 rfl
    obtain ⟨l2, p2, e2⟩ := m1
    obtain ⟨l3, p3, e3⟩ := each_perm pm e2
    exact wpAny_pure (hR _ (sb1.trans (Heap.SameBut.update _ a _)) ⟨_, es2, _, t3, ho2, hex, rfl, fun e he => g1 e (pm.mem_iff.mp he), ⟨l3, p3.trans p2, e3⟩, nd1, hb2, hf3, hr3, hl.imp id fun z => by rw [hl3]; exact z⟩)
  · exact wpAny_pure (hR _ sb1 ⟨_, es1, _, t2, ho1, hex, rfl, g1, m1, nd1, hb1, hf2, hr, hl⟩)
/-- a text added -/
theorem setS_add {k : Str} {tk : Tok} {Q : Bool → Shared → Prop} (R : SetS w s.heap a l) (room : l.length + 1 < scanBound)
    (hQ : ∀ b h', Heap.SameBut a s.heap h' → SetS w h' a (if k ∈ l then l else l ++ [k]) → Q b { s with heap := h' }) :
    wpAny (model P w) A (setAddHashed a (.str k tk) ((strKind P w).hash k)) Q E s := by
  obtain ⟨o, es, ep, t, ho, hex, hd, g, ⟨l', pl, el⟩, nd, hb, hf, hr, hl⟩ := R
  have hkey : (strKind P w).is k (.str k tk) = true := PySem.Froz.is_str k tk
  have hsc : (Value.str k tk).scannable = true := rfl
  have hel : ElemsOf (strKind P w) es.toList := elemsS g
  have hn : es.size = l.length := by rw [← Array.length_toList, el.length, pl.length_eq]
  unfold setAddHashed setAddHashedIn
  refine wpAny_holding (wpAny_bind (wpAny_setState_of ho hd hf ?_))
  dsimp only
  rw [byScan_of hsc hb hel]
  simp only [↓reduceIte]
  unfold setAddByScan
  refine wpAny_bind ?_
  refine wpAny_bind (wpAny_rule ?_)
  refine wpAny_bind (wpAny_setScan_of hkey ho hd hf hel ?_)
  cases hfi : List.findIdx? (fun e => (strKind P w).is k e.2) es.toList with
  | some j =>
    dsimp only
    obtain ⟨hj, pj, _⟩ := List.findIdx?_eq_some_iff_getElem.mp hfi
    have hk : k ∈ l := pl.mem_iff.mp ((memS (P := P) (w := w) el k).mpr ⟨es.toList[j], List.getElem_mem hj, pj⟩)
    refine wpAny_pure (wpAny_pure ?_)
    have q := hQ false s.heap (Heap.SameBut.refl a s.heap)
    rw [if_pos hk] at q
    exact q ⟨o, es, ep, t, ho, hex, hd, g, ⟨l', pl, el⟩, nd, hb, hf, hr, hl⟩
  | none =>
    dsimp only
    have hnk : k ∉ l := fun z => by
      obtain ⟨e, he, q⟩ := (memS (P := P) (w := w) el k).mp (pl.mem_iff.mpr z)
      have c := List.findIdx?_eq_none_iff.mp hfi e he
      rw [q] at c
      cases c
    have hgw : ∀ (b : Bool) {s₁ : Shared} {Q' : Unit → Shared → Prop}, Q' () s₁ → wpAny (model P w) A (match b with | true => rule "set.scan.the-table-gave-way" | false => pure ()) Q' E s₁ :=
      fun b s₁ Q' q => by cases b <;> first | exact wpAny_pure q | exact wpAny_rule q
    have pm := layNew_perm t es ((strKind P w).hash k) (.str k tk)
    have hf1 := layNew_fits t es ((strKind P w).hash k) (.str k tk)
    have hr1 := layNew_ris t es ((strKind P w).hash k) (.str k tk) hr
    have hl1 := layNew_led t es ((strKind P w).hash k) (.str k tk)
    generalize layNew t es ((strKind P w).hash k) (.str k tk) = Z at pm hf1 hr1 hl1 ⊢
    obtain ⟨es1, t1, wasDummy, gave⟩ := Z
    dsimp only at pm hf1 hr1 hl1 ⊢
    rw [Array.toList_push] at pm
    have pc : es1.toList.Perm (((strKind P w).hash k, Value.str k tk) :: es.toList) := pm.trans (List.perm_append_singleton _ _)
    have g1 : ∀ e ∈ es1.toList, ∃ k u, e.2 = Value.str k u ∧ e.1 = hashStr w k := fun e he => by
      rcases List.mem_cons.mp (pc.mem_iff.mp he) with z | z
      · rw [z]; exact ⟨k, tk, rfl, rfl⟩
      · exact g e z
    obtain ⟨l1, p1, e1⟩ := each_perm pc (PySem.W.EachIs.cons (R := fun (e : Int × Value) k => ∃ u, e.2 = .str k u) (a := ((strKind P w).hash k, Value.str k tk)) (b := k) ⟨tk, rfl⟩ el)
    have p1' : l1.Perm (l ++ [k]) := p1.trans ((pl.cons k).trans (List.perm_append_singleton _ _).symm)
    have nd1 : (l ++ [k]).Nodup := (List.perm_append_singleton k l).nodup_iff.mpr (List.nodup_cons.mpr ⟨hnk, nd⟩)
    have hsz : es1.size = es.size + 1 := by rw [← Array.length_toList, pc.length_eq, List.length_cons, Array.length_toList]
    have hb1 : es1.size < scanBound := by rw [hsz, hn]; exact room
    have hled : w.params.followText "set-order" = true ∨ t1.led = true := hl.imp id fun z => by rw [hl1]; exact z
    have fin : ∀ h', Heap.SameBut a s.heap h' → SetS w h' a (l ++ [k]) → Q true { s with heap := h' } := fun h' sb r => by
      have q := hQ true h' sb
      rw [if_neg hnk] at q
      exact q r
    refine wpAny_bind (hgw _ ?_)
    split
    · refine wpAny_bind ?_
      rw [hashByValue_scannable 8 hsc]
      refine wpAny_pure ?_
      refine setS_tail ?_ ho hex hd g1 ⟨l1, p1', e1⟩ nd1 hb1 ?_ ?_ ?_ ?_
      · intro b s₁ Q' q; cases b <;> first | exact wpAny_pure q | exact wpAny_rule q
      · first | (split <;> first | exact hf1 | exact SetTable.fits_plain_off hf1) | exact hf1
      · first | (split <;> exact hr1) | exact hr1
      · first | (split <;> exact hled) | exact hled
      · intro h' sb r; dsimp only; exact wpAny_pure (fin h' sb r)
    · refine wpAny_bind (wpAny_pure ?_)
      simp only [↓reduceIte]
      refine setS_tail ?_ ho hex hd g1 ⟨l1, p1', e1⟩ nd1 hb1 hf1 hr1 hled ?_
      · intro b s₁ Q' q; cases b <;> first | exact wpAny_pure q | exact wpAny_rule q
      · intro h' sb r; dsimp only; exact wpAny_pure (fin h' sb r)
theorem setS_fresh {h : Heap} {a : Addr} (ho : h.get? a = some { cls := .type "set", dict := none, data := .set #[] 0 (.fresh 0 0 (!w.params.followText "set-order")) }) : SetS w h a [] :=
  ⟨_, #[], 0, _, ho, ⟨rfl, rfl, rfl⟩, rfl, (fun e he => by simp at he), ⟨[], .refl _, .nil⟩, List.nodup_nil, (by decide), (by rfl), List.Pairwise.nil, by
    show _ ∨ (!w.params.followText "set-order") = true
    cases w.params.followText "set-order"
    · exact .inr rfl
    · exact .inl rfl⟩
/-- the texts, each once -/
def once (xs : List Str) : List Str := xs.foldl (fun l k => if k ∈ l then l else l ++ [k]) []
theorem once_len : ∀ (xs l : List Str), (xs.foldl (fun l k => if k ∈ l then l else l ++ [k]) l).length ≤ l.length + xs.length
  | [], l => Nat.le_refl _
  | x :: xs, l => by
    rw [List.foldl_cons]
    refine Nat.le_trans (once_len xs _) ?_
    split
    · rw [List.length_cons]; omega
    · rw [List.length_append, List.length_cons]; simp; omega
theorem set_update_texts {I : Addr} {fp wr : List Addr} {G : Array GenState → Array GenState → Prop} {n : Nat} {Pv : Nat → Value → Prop} {St : Nat → Shared → Prop} {R : Result → Shared → Prop}
    (W : WalksS P w A.in1 I fp wr G n Pv St) (S : Addr) (hSf : S ∉ fp) (ns : List Str) (hn : n = ns.length) (hb : ns.length + 1 < scanBound) (hval : ∀ i v, Pv i v → ∃ k t, ns[i]? = some k ∧ v = .str k t) :
    ∀ (k i : Nat) (s : Shared), n - i = k → i ≤ n → St i s → SetS w s.heap S (once (ns.take i)) →
      (∀ s', Moved (S :: wr) G s s' → SetS w s'.heap S (once ns) → R (.ok (.ret .none)) s') →
      codeAny (model P w) A (.builtin "set.update.loop" ⟨[.ref S, .ref I], []⟩) R s := by
  have hSw : S ∉ wr := fun h => hSf (W.sub _ h)
  have hsub : ∀ b ∈ wr, b ∈ S :: wr := fun b hb => List.mem_cons_of_mem _ hb
  intro k
  induction k with
  | zero =>
    intro i s hk' hi hst hS hR
    have hin : i = n := by omega
    subst hin
    refine codeAny_builtin F.entry_set_update_loop ?_
    rw [Around.under_plainId F.plain_set_update_loop _]
    show wpAny _ A.in1 (pyNext (.ref I) >>= _) _ _ s
    refine wpAny_bind (W.done s _ _ hst fun s' hm => ?_)
    show wpAny _ A.in1 (ret Value.none) _ _ s'
    have e : ns.take i = ns := List.take_of_length_le (by omega)
    rw [e] at hS
    exact wpAny_pure (hR s' (hm.mono hsub) (hS.at fun o e => hm.heap S o hSw e))
  | succ k ih =>
    intro i s hk' hi hst hS hR
    have hlt : i < n := by omega
    refine codeAny_builtin F.entry_set_update_loop ?_
    rw [Around.under_plainId F.plain_set_update_loop _]
    show wpAny _ A.in1 (pyNext (.ref I) >>= _) _ _ s
    refine wpAny_bind (W.item i s _ _ hlt hst fun v s' hP hst' hm => ?_)
    obtain ⟨z, t, hz, rfl⟩ := hval i v hP
    have hS' : SetS w s'.heap S (once (ns.take i)) := hS.at fun o e => hm.heap S o hSw e
    show wpAny _ A.in1 (holding [Value.str z t] (setAdd S (.str z t)) >>= _) _ _ s'
    refine wpAny_bind (wpAny_holding ?_)
    unfold setAdd
    refine wpAny_holding ?_
    refine wpAny_bind ((strKind P w).pyHash (k := z) (PySem.Froz.is_str _ _) ?_)
    have hlen : (once (ns.take i)).length ≤ ns.length := Nat.le_trans (once_len _ _) (by rw [List.length_nil, List.length_take]; omega)
    refine setS_add (s := { s' with toks := s'.toks + 1 }) hS' (by omega) fun b h' hsb hS2 => ?_
    have hS3 : SetS w h' S (once (ns.take (i + 1))) := by
      rw [List.take_add_one, hz]
      unfold once
      rw [List.foldl_append]
      exact hS2
    refine wpAny_pure ⟨plainId_quiet F.plain_set_update_loop _, ih (i + 1) _ (by omega) hlt (W.frame _ s' _ _ hst' (Nat.le_succ _) fun b hb o e => ?_) hS3 fun s'' hm'' hS'' => ?_⟩
    · rw [hsb.2 b (fun h : b = S => hSf (by rw [← h]; exact hb))]; exact e
    · refine hR s'' (Moved.trans W.gtrans ((hm.mono hsub).then_heap (Nat.le_succ _) fun b o hb e => ?_) hm'') hS''
      rw [hsb.2 b (fun h : b = S => hb (by rw [h]; exact List.mem_cons_self))]; exact e
set_option maxRecDepth 100000 in
set_option maxHeartbeats 3200000 in
/-- set(l), l a list of texts -/
theorem call_set_texts {l : Addr} {items : Array Value} (ns : List Str) {Q : Value → Shared → Prop} (hh : A.handled = none) (hl : s.heap.IsList l items) (hit : StrsAre items.toList ns) (hb : ns.length + 1 < scanBound)
    (h : ∀ (h' : Heap) (tk : Nat), SetS w h' s.heap.objs.size (once ns) → (∀ b o, s.heap.get? b = some o → h'.get? b = some o) → Q (.ref s.heap.objs.size) { s with heap := h', toks := tk }) :
    wpAny (model P w) A (call (.type "set") [.ref l]) Q E s := by
  have hisz : items.size = ns.length := by
    have q := StrsAre.len_eq hit
    rw [Array.length_toList] at q
    exact q
  obtain ⟨c, tl, hmro⟩ := F.called_set.mro
  have hmade := F.called_set.made
  have hsub := F.called_set.sub
  refine wpAny_call (codeAny_of_tree ?_)
  show wpAny _ _ (callAny (.type "set") _) _ _ _
  refine wpAny_pure ⟨Code.quiet_builtin _ (by decide +kernel), codeAny_builtin F.entry_type_call ?_⟩
  rw [Around.under_plain (weight_type_call_type "set" [.ref l] []) rfl]
  have h1 := F.called_set.notType
  have h2 := F.called_set.canCreate
  have hct := F.typeCall_set_1 (.ref l)
  repeat (any_goals (first | assumption | wp_step))
  refine codeAny_mono (code_set_led1 (.ref l) (E := E) (Q₁ := fun obj s₁ => obj = .ref s.heap.objs.size ∧ s₁ = { s with heap := s.heap.push { cls := .type "set", dict := none, data := .set #[] 0 (.fresh 0 0 (!w.params.followText "set-order")) } }) ⟨rfl, rfl⟩) fun r s₁ hr => ?_
  cases r with
  | error e => exact hr
  | ok fl =>
    cases fl with
    | ret obj =>
      obtain ⟨rfl, rfl⟩ := hr
      have hS : (s.heap.push { cls := .type "set", dict := none, data := .set #[] 0 (.fresh 0 0 (!w.params.followText "set-order")) }).get? s.heap.objs.size = some { cls := .type "set", dict := none, data := .set #[] 0 (.fresh 0 0 (!w.params.followText "set-order")) } := Heap.get?_push_size _ rfl
      have hT : Shared.TypeIs { s with heap := s.heap.push { cls := .type "set", dict := none, data := .set #[] 0 (.fresh 0 0 (!w.params.followText "set-order")) } } (.ref s.heap.objs.size) "set" := ⟨_, hS, rfl⟩
      have hli := F.called_set.init.lookup
      have hbi := F.called_set.init.bind (.ref s.heap.objs.size)
      repeat (any_goals (first | assumption | wp_step))
      refine codeAny_mono (codeAny_call_builtin (R := wants (fun r s₂ => r = .none ∧ ∃ h' tk, s₂ = { s with heap := h', toks := tk } ∧ SetS w h' s.heap.objs.size (once ns) ∧
          (∀ b o, s.heap.get? b = some o → h'.get? b = some o)) E) F.called_set.init.plain F.entry_set_init (check_set_init_1 hT ?_)) fun r₂ s₂ hr₂ => ?_
      · obtain ⟨ol, hol, hcl, nl, hdl⟩ := hl
        obtain ⟨ocls, odict, odata, oslots⟩ := ol
        simp only at hcl hdl
        subst hcl; subst hdl
        have hol' : (s.heap.push { cls := .type "set", dict := none, data := .set #[] 0 (.fresh 0 0 (!w.params.followText "set-order")) }).get? l = some { cls := .type "list", dict := odict, data := .seq items nl, slots := oslots } := Heap.get?_push_of_some _ hol
        have hsls := F.sub_list_set
        have hslf := F.sub_list_frozenset
        have hne : (Value.type "list" == Value.type "dict") = false := by decide
        have hl1 : (s.heap.push { cls := .type "set", dict := none, data := .set #[] 0 (.fresh 0 0 (!w.params.followText "set-order")) }).IsList l items := ⟨_, hol', rfl, nl, rfl⟩
        unfold Builtin.«set.__init__» noKeywords Builtin.Frozenset.updateFrom
        generalize hPI : pyIter = PI
        wp_walk
        subst hPI
        refine wpAny_pyIter_list hl1 ?_
        refine wpAny_bind (wpAny_runValue ?_)
        have hlS : l < s.heap.objs.size := Heap.lt_size hol
        have hh3 : A.in1.in1.in1.handled = none := by simp [hh]
        have hneI : l ≠ (s.heap.push { cls := .type "set", dict := none, data := .set #[] 0 (.fresh 0 0 (!w.params.followText "set-order")) }).objs.size := by
          rw [Heap.size_push]; exact Nat.ne_of_lt (Nat.lt_succ_of_lt hlS)
        have hSf : s.heap.objs.size ∉ [(s.heap.push { cls := .type "set", dict := none, data := .set #[] 0 (.fresh 0 0 (!w.params.followText "set-order")) }).objs.size, l] := by
          rw [Heap.size_push]; simp only [List.mem_cons, List.mem_singleton, List.not_mem_nil, or_false, not_or]
          exact ⟨Nat.ne_of_lt (Nat.lt_succ_self _), Nat.ne_of_gt hlS⟩
        have hval : ∀ (i : Nat) (v : Value), items[i]? = some v → ∃ k t, ns[i]? = some k ∧ v = .str k t := fun i v hv => by
          have hi : i < ns.length := by rw [← hisz]; exact (Array.getElem?_eq_some_iff.mp hv).1
          obtain ⟨t, e⟩ := SS.strs_at hit i v (by rw [Array.getElem?_toList]; exact hv)
          refine ⟨ns[i], t, List.getElem?_eq_getElem hi, ?_⟩
          rw [e, List.getD_eq_getElem?_getD, List.getElem?_eq_getElem hi] <;> rfl
        refine set_update_texts ((Walks.list hh3 _ l hneI items).toS) s.heap.objs.size
          hSf ns hisz hb hval (items.size - 0) 0 _ (by omega) (Nat.zero_le _)
          ⟨⟨_, Heap.get?_push_size _ rfl, rfl, rfl⟩, (hl1.push _)⟩ ?hS0 ?hR
        case hS0 => exact setS_fresh (Heap.get?_push_of_some _ hS)
        case hR =>
          intro s' hm hS'
          obtain ⟨h', g2, d', tk', os'⟩ := s'
          have eg : g2 = s.gens := hm.gens
          have ed : d' = s.drawn := hm.drawn
          have eo : os' = s.os := hm.os
          subst eg; subst ed; subst eo
          show wpAny _ _ _ _ _ _
          refine wpAny_pure ?_
          show wpAny _ _ (ret Value.none) _ _ _
          refine wpAny_pure ⟨rfl, h', tk', rfl, hS', fun b o e => ?_⟩
          have hb0 : b < s.heap.objs.size := Heap.lt_size e
          have hb1 : b ≠ s.heap.objs.size := Nat.ne_of_lt hb0
          have hb2 : b ≠ (s.heap.push { cls := .type "set", dict := none, data := .set #[] 0 (.fresh 0 0 (!w.params.followText "set-order")) }).objs.size := by
            rw [Heap.size_push]; exact Nat.ne_of_lt (Nat.lt_succ_of_lt hb0)
          exact hm.heap b o (by simp only [List.mem_cons, List.mem_singleton, List.not_mem_nil, or_false, not_or]; exact ⟨hb1, hb2⟩) (Heap.get?_push_of_some _ (Heap.get?_push_of_some _ e))
      · cases r₂ with
        | error e => exact hr₂
        | ok fl₂ =>
          cases fl₂ with
          | ret r =>
            obtain ⟨rfl, h', tk, rfl, hS', hk'⟩ := hr₂
            repeat (any_goals (first | assumption | wp_step))
            exact h _ _ hS' hk'
          | _ => exact hr₂.elim
    | _ => exact hr.elim
end
end DL
end
section
set_option Elab.async false
set_option linter.all false
set_option autoImplicit false
set_option maxRecDepth 100000
/-! The data layer, part x: dict(pairs), set(texts), sorted of what is no list. -/
namespace DL
open PySem PySem.Spec PyProof.Rows L2

section
variable {X : Cx} {pins : List (Addr × Obj)} {σ : L2.St} {H : Hp} {s : Shared} {L : Addr → Prop} {T : List (Addr × Str)}
theorem keysM_of {h : Heap} {kvs : List (PyData × PyData)} {es : List (Int × V × V)} {ents : Array DictEntry} (I : Inv X pins σ H s) (keep : ∀ b o, s.heap.get? b = some o → h.get? b = some o) (R : DicR X.K X.w L H kvs es) (hk : ∀ p ∈ kvs, keyOk8 p.1 = true) (nd : (kvs.map (·.1)).Pairwise fun a b => PyData.eqv a b = false)
    (P : Paired (fun (p : Int × V × V) (e : DictEntry) => e.hash = p.1 ∧ RelV p.2.1 e.key ∧ RelV p.2.2 e.val) es ents.toList) : KeysM X.w h ents (kvs.map fun p => nkOf p.1) := by
  refine ⟨?_, fun j k hj => ?_, ?_⟩
  · rw [List.length_map, R.length, P.length, Array.length_toList]
  · rw [List.getElem?_map, Option.map_eq_some_iff] at hj
    obtain ⟨p, hp, rfl⟩ := hj
    have at2 : ∀ {kvs : List (PyData × PyData)} {es : List (Int × V × V)} {ents : List DictEntry} {j : Nat} {p : PyData × PyData}, DicR X.K X.w L H kvs es → Paired (fun (p : Int × V × V) (e : DictEntry) => e.hash = p.1 ∧ RelV p.2.1 e.key ∧ RelV p.2.2 e.val) es ents → kvs[j]? = some p →
        ∃ e v, ents[j]? = some e ∧ Rp X.K L H v p.1 ∧ RelV v e.key ∧ e.hash = (nkOf p.1).hash X.w := by
      intro kvs es ents j p R
      induction R generalizing ents j with
      | nil => intro _ h; simp at h
      | cons q _ ih =>
        intro P hj
        cases P with
        | cons z zs =>
          cases j with
          | zero => simp at hj; subst hj; exact ⟨_, _, rfl, q.2.1, z.2.1, z.1.trans q.1⟩
          | succ j =>
            obtain ⟨e, v, r⟩ := ih zs (by simpa using hj)
            exact ⟨e, v, by simpa using r⟩
    obtain ⟨e, v, q1, q2, q3, q4⟩ := at2 R P hp
    have ok := ok8 (hk p (List.mem_of_getElem? hp))
    exact ⟨e, by rw [← Array.getElem?_toList]; exact q1, NestedIs.at (fun b o _ _ q _ => keep b o q) _ _ (nested_rep I q2 ok.1 q3), ok.2, q4⟩
  · show (kvs.map (nkOf ∘ (·.1))).Nodup
    rw [← List.map_map]
    refine List.Pairwise.map _ (R := fun a b => PyData.eqv a b = false ∧ keyOk8 a = true ∧ keyOk8 b = true) (fun a b ⟨h, ha, hb⟩ e => ?_) ?_
    · rw [eqv_nk ha hb, decide_eq_true e] at h; cases h
    · have hk' : ∀ a ∈ kvs.map (·.1), keyOk8 a = true := fun a ha => by
        obtain ⟨p, hp, rfl⟩ := List.mem_map.mp ha
        exact hk p hp
      exact List.Pairwise.imp_of_mem (fun ha hb h => ⟨h, hk' _ ha, hk' _ hb⟩) nd
/-- an entry stored, over heaps -/
theorem mixPut {A : Around} {E : Value → Shared → Prop} {s1 : Shared} {D : Addr} {o : Obj} {ep : Nat} {ents : Array DictEntry} {kvs : List (PyData × PyData)} {es : List (Int × V × V)} {dk dv : PyData} {k v : V} {u r : Value} {Q : Unit → Shared → Prop} (hu : A.units + 8 < cLine) (I : Inv X pins σ H s) (keep : ∀ b o, s.heap.get? b = some o → s1.heap.get? b = some o)
    (e1 : s1.heap.get? D = some o) (e2 : o.ExactDict) (e3 : o.data = .dict ents ep) (P : Paired (fun (p : Int × V × V) (e : DictEntry) => e.hash = p.1 ∧ RelV p.2.1 e.key ∧ RelV p.2.2 e.val) es ents.toList) (R : DicR X.K X.w L H kvs es)
    (hk : ∀ p ∈ kvs, keyOk8 p.1 = true) (nd : (kvs.map (·.1)).Pairwise fun a b => PyData.eqv a b = false) (hz : kvs.length < sizeLine) (rk : Rp X.K L H k dk) (ok : keyOk8 dk = true) (ru : RelV k u) (rd : Rp X.K L H v dv) (rv : RelV v r)
    (h : ∀ h' tk o' ep' ents' es', h'.get? D = some o' → o'.ExactDict → o'.data = .dict ents' ep' → Paired (fun (p : Int × V × V) (e : DictEntry) => e.hash = p.1 ∧ RelV p.2.1 e.key ∧ RelV p.2.2 e.val) es' ents'.toList → DicR X.K X.w L H (dput kvs dk dv) es' → Heap.SameBut D s1.heap h' → Q () { s1 with heap := h', toks := tk }) :
    wpAny (model X.prog X.w) A (dictSet D u r) Q E s1 := by
  have M := keysM_of I keep R hk nd P
  have ok' := ok8 ok
  have hl : ents.size = kvs.length := by rw [M.len, List.length_map]
  refine mixSet hu (NestedIs.at (fun b o _ _ q _ => keep b o q) _ _ (nested_rep I rk ok'.1 ru)) ok'.2 e1 e2 e3 M (by omega) fun h' ents' ⟨o', ep', q1, q2, q3⟩ sb hc => ?_
  rcases hc with ⟨hno, rfl⟩ | ⟨j, hj, rfl⟩
  · have ha : ¬ (kvs.any fun p => PyData.eqv p.1 dk) = true := fun z => hno ((keys_at hk ok).mpr z)
    refine h h' _ o' ep' _ (es ++ [((nkOf dk).hash X.w, k, v)]) q1 q2 q3 ?_ ?_ sb
    · rw [Array.toList_push]
      exact P.snoc ⟨rfl, ru, rv⟩
    · unfold dput
      rw [if_neg ha]
      exact Paired.snoc R ⟨rfl, rk, rd⟩
  · have ha : (kvs.any fun p => PyData.eqv p.1 dk) = true := (keys_at hk ok).mp (List.mem_of_getElem? hj)
    refine h h' _ o' ep' _ (es.modify j fun e => (e.1, e.2.1, v)) q1 q2 q3 ?_ ?_ sb
    · rw [Array.toList_modify]
      exact Paired.modifyP P fun a b q _ => ⟨q.1, q.2.1, rv⟩
    · unfold dput
      rw [if_pos ha]
      rw [modify_of_map (g := fun p => (p.1, dv)) (j := j) fun i p hp => ?_]
      · exact Paired.modifyP R fun a b q _ => ⟨q.1, q.2.1, rd⟩
      · have hi : (kvs.map fun p => nkOf p.1)[i]? = some (nkOf p.1) := by rw [List.getElem?_map, hp]; rfl
        rw [eqv_nk (hk p (List.mem_of_getElem? hp)) ok]
        by_cases z : i = j
        · subst z
          rw [hj] at hi
          rw [if_pos rfl, if_pos (decide_eq_true (Option.some.inj hi).symm)]
        · rw [if_neg z, if_neg]
          intro y
          have y := of_decide_eq_true y
          exact z (nodup_at M.nodup (hi.trans (by rw [y])) hj)
theorem pairs_rep (I : Inv X pins σ H s) : ∀ {vs : List V} {xs : List PyData} {ps : List (PyData × PyData)} {us : List Value}, RpAll X.K L H vs xs → pairsOf xs = some ps → Vals vs us →
    us.length = ps.length ∧ (∀ p ∈ ps, keyOk8 p.1 = true) ∧ ∃ psV : List (Value × Value), psV.length = ps.length ∧ ∀ (j : Nat) (p : PyData × PyData), ps[j]? = some p → ∃ b q v w, us[j]? = some (.ref b) ∧ s.heap.IsTuple b #[q.1, q.2] ∧ psV[j]? = some q ∧ Rp X.K L H v p.1 ∧ RelV v q.1 ∧ Rp X.K L H w p.2 ∧ RelV w q.2
  | _, _, _, _, .nil, e, .nil => by
    cases e
    exact ⟨rfl, (fun _ h => by cases h), [], rfl, fun j p hj => by simp at hj⟩
  | _, _, _, _, .cons (d := d) r rs, e, .cons q qs => by
    cases r with
    | @tup a ys ds e1 rr =>
      cases ds with
      | nil => cases e
      | cons dk ds => cases ds with
        | nil => cases e
        | cons dv ds => cases ds with
          | cons _ _ => cases e
          | nil =>
            have e' : (if keyOk8 dk = true then (pairsOf _).map ((dk, dv) :: ·) else none) = some _ := e
            by_cases hk : keyOk8 dk = true
            · rw [if_pos hk] at e'
              obtain ⟨ps', e2, e3⟩ := map_some e'
              subst e3
              obtain ⟨i1, i2, psV, i3, i4⟩ := pairs_rep I rs e2 qs
              cases q
              obtain ⟨its, rv, pl, _⟩ := I.tuple e1.sq
              obtain ⟨x1, x2, rfl, r1, r2⟩ : ∃ x1 x2, ys = [x1, x2] ∧ Rp X.K L H x1 dk ∧ Rp X.K L H x2 dv := by
                cases rr with | cons r1 rr => cases rr with | cons r2 rr => cases rr; exact ⟨_, _, rfl, r1, r2⟩
              obtain ⟨u1, u2, rfl, v1, v2⟩ := vals2 rv
              refine ⟨by rw [List.length_cons, List.length_cons, i1], fun p hp => ?_, (u1, u2) :: psV, by rw [List.length_cons, List.length_cons, i3], fun j p hj => ?_⟩
              · rcases List.mem_cons.mp hp with z | z
                · rw [z]; exact hk
                · exact i2 p z
              · cases j with
                | zero => simp at hj; subst hj; exact ⟨a, (u1, u2), _, _, rfl, pl, rfl, r1, v1, r2, v2⟩
                | succ j =>
                  obtain ⟨b, q, v, w, h1, h2, h3, h4⟩ := i4 j p (by simpa using hj)
                  exact ⟨b, q, v, w, by simpa using h1, h2, by simpa using h3, h4⟩
            · rw [if_neg hk] at e'; cases e'
    | _ => cases e
theorem dputs_snoc : ∀ (ps : List (PyData × PyData)) (acc : List (PyData × PyData)) (p : PyData × PyData), dputs acc (ps ++ [p]) = dput (dputs acc ps) p.1 p.2
  | [], acc, p => rfl
  | (k, v) :: ps, acc, p => dputs_snoc ps (dput acc k v) p
theorem dput_len (kvs : List (PyData × PyData)) (k v : PyData) : (dput kvs k v).length ≤ kvs.length + 1 := by
  unfold dput
  split
  · rw [List.length_map]; omega
  · rw [List.length_append]; simp
theorem dputs_ok : ∀ (ps acc : List (PyData × PyData)), (∀ p ∈ acc, keyOk8 p.1 = true) → ((acc.map (·.1)).Pairwise fun a b => PyData.eqv a b = false) → (∀ p ∈ ps, keyOk8 p.1 = true) →
    (∀ p ∈ dputs acc ps, keyOk8 p.1 = true) ∧ (((dputs acc ps).map (·.1)).Pairwise fun a b => PyData.eqv a b = false) ∧ (dputs acc ps).length ≤ acc.length + ps.length
  | [], acc, h1, h2, _ => ⟨h1, h2, Nat.le_refl _⟩
  | (k, v) :: ps, acc, h1, h2, h3 => by
    obtain ⟨q1, q2⟩ := dput_ok (v := v) h1 h2 (h3 (k, v) List.mem_cons_self)
    obtain ⟨r1, r2, r3⟩ := dputs_ok ps (dput acc k v) q1 q2 fun p hp => h3 p (List.mem_cons_of_mem _ hp)
    refine ⟨r1, r2, Nat.le_trans r3 ?_⟩
    have := dput_len acc k v
    rw [List.length_cons]; omega
theorem bi_dict (hu : X.A.units + 10 < cLine) (hc : X.calm = true) : CallR X (.type "dict") (rBi X.K X.w T .dict) := by
  intro pins s σ H vs us Q I r hq
  obtain ⟨h, μ, ds, d, rs, R, e, f⟩ := hq
  unfold opBi at e
  split at e <;> first | (rename_i q; cases q; done) | (cases e; done) | skip
  rename_i xs _ _
  obtain ⟨v, rfl, rv⟩ := one_rep rs
  obtain ⟨ps, e1, rfl⟩ := map_some e
  cases rv with | dat rv => cases rv with | @lst a vs ds e2 nl rr =>
    obtain ⟨u, rfl, ru⟩ := vals1 r
    obtain rfl : u = Value.ref a := ru
    obtain ⟨its, n, rits, hob, hz⟩ := I.lst e2
    obtain ⟨i1, i2, psV, i3, i4⟩ := pairs_rep I rr e1 rits
    have hlen : ps.length ≤ sizeLine := by rw [← i1, ← rits.length]; exact hz
    let Ts : Nat → Addr := fun j => match its[j]? with | some (.ref b) => b | _ => 0
    have ok : PlainSeq "list" s.heap a its.toArray ∧ PairItems s.heap its.toArray Ts psV := ⟨⟨_, n, hob, rfl, rfl, rfl⟩, by rw [List.size_toArray, i1, i3], fun j k v hj => by
      have hj' : j < ps.length := by rw [← i3]; exact (List.getElem?_eq_some_iff.mp hj).1
      obtain ⟨b, q, v', w', h1, h2, h3, _⟩ := i4 j ps[j] (List.getElem?_eq_getElem hj')
      rw [hj] at h3
      cases h3
      refine ⟨by rw [List.getElem?_toArray, h1]; show _ = some (Value.ref (match its[j]? with | some (.ref b) => b | _ => 0)); rw [h1], ?_⟩
      show PairAt s.heap (match its[j]? with | some (.ref b) => b | _ => 0) k v
      rw [h1]
      exact .inl h2⟩
    refine call_dict_arg (PairArg.list a its.toArray Ts psV) ok fun s₁ hs₁ hdf ok₁ => ?_
    subst hs₁
    have bigD : (s.heap.objs.size == sysModules) = false := by
      have := I.big
      exact beq_false_of_ne (Nat.ne_of_gt this)
    refine updateFrom_arg (A := X.A.in1) (Tab := fun i g => (∀ b o, s.heap.get? b = some o → g.get? b = some o) ∧ ∃ o ep ents es, g.get? s.heap.objs.size = some o ∧ o.ExactDict ∧ o.data = .dict ents ep ∧ Paired (fun (p : Int × V × V) (e : DictEntry) => e.hash = p.1 ∧ RelV p.2.1 e.key ∧ RelV p.2.2 e.val) es ents.toList ∧ DicR X.K X.w (Lv h μ) H (dputs [] (ps.take i)) es)
      (PairArg.list a its.toArray Ts psV) .none (I.ok.hd hc) ok₁ hdf ⟨fun b o q => Heap.get?_push_of_some _ q, _, 0, #[], [], Heap.get?_push_size _ rfl, ⟨rfl, rfl, rfl⟩, rfl, .nil, .nil⟩ (fun i g ⟨_, o, _, _, _, q, _⟩ => Heap.lt_size q) ?_ ?_ ?_
    · rintro i g g' wr' hd hw ⟨t1, o, ep, ents, es, t2, t3, t4, t5, t6⟩ hk
      refine ⟨fun b o q => hk b o (fun z => ?_) (t1 b o q), o, ep, ents, es, hk _ o hd t2, t3, t4, t5, t6⟩
      rcases hw b z with y | y
      · cases y
      · rw [Heap.get?_push_of_some _ q] at y; cases y
    · rintro i k v s' Q' E' hi hrel ⟨t1, o, ep, ents, es, t2, t3, t4, t5, t6⟩ _ hQ'
      have hj' : i < ps.length := by rw [← i3]; exact hi
      obtain ⟨b, q, v', w', h1, h2, h3, h4, h5, h6, h7⟩ := i4 i ps[i] (List.getElem?_eq_getElem hj')
      rw [show psV[i]? = some (k, v) from hrel] at h3
      cases h3
      obtain ⟨o1, o2, o3⟩ := dputs_ok (ps.take i) [] (fun _ z => by cases z) .nil fun p hp => i2 p (List.mem_of_mem_take hp)
      refine mixPut (by simp only [Around.in1_units]; omega) I t1 t2 t3 t4 t5 t6 o1 o2 (by rw [List.length_take] at o3; simp at o3; omega) h4 (i2 _ (List.getElem_mem hj')) h5 h6 h7 fun h' tk o' ep' ents' es' q1 q2 q3 q4 q5 sb => hQ' h' tk ⟨fun b o q => ?_, o', ep', ents', es', q1, q2, q3, q4, ?_⟩ sb
      · rw [sb.2 b (Nat.ne_of_lt (Heap.lt_size q))]
        exact t1 b o q
      · rw [List.take_add_one, List.getElem?_eq_getElem hj']
        show DicR X.K X.w (Lv h μ) H (dputs [] (ps.take i ++ [ps[i]])) es'
        rw [dputs_snoc]
        exact q5
    · rintro h' tk ⟨t1, o, ep, ents, es, t2, t3, t4, t5, t6⟩ hk
      rw [i3, List.take_length] at t6
      obtain ⟨o1, o2, o3⟩ := dputs_ok ps [] (fun _ z => by cases z) .nil i2
      have hn : H s.heap.objs.size = none := I.hok.fresh (Nat.le_refl _)
      have hes : es.length ≤ sizeLine := by rw [← t6.length]; simp at o3; omega
      refine ⟨rfl, .ref _, upd H s.heap.objs.size (dicO s.heap.objs.size es), I.laid (t' := tk) t1 (Nat.le_refl _) (dicO_ok bigD hes t2 t3 t4 t5), rfl, f.new R hn ?_⟩
      exact .dic upd_same (R.fresh hn) (t6.stepL (Step.new hn).toStepL) o1 o2
end
end DL
end
section
set_option Elab.async false
set_option linter.all false
set_option autoImplicit false
set_option maxRecDepth 100000
/-! The data layer, part y: sorted by values; isinstance; d.get. -/
namespace DL
open PySem PySem.Spec PyProof.Rows L2
section
variable {X : Cx} {T : List (Addr × Str)}
theorem col_of {pins : List (Addr × Obj)} {σ : L2.St} {H : Hp} {s : Shared} {h : Store} {μ : Mu} {x : D} {v : V} {u : Value} {xs : List PyData} {E : Value → Shared → Prop} (hc : X.calm = true) (I : Inv X pins σ H s) (rv : RpD X.K X.w h μ H v x) (ru : RelV v u) (e : srtOf h x = some xs) (hl : xs.length ≤ sizeLine) :
    wpAny (model X.prog X.w) X.A.in1 (collect u) (fun its s1 => Inv X pins σ H s1 ∧ ∃ ws, Vals ws its ∧ RpAll X.K (Lv h μ) H ws xs) E s := by
  cases x with
  | dat d =>
    cases rv with | dat rv =>
    cases d with
    | list ys =>
      cases e
      cases rv with
      | lst e1 _ rr =>
        cases ru
        obtain ⟨its, n, rits, hob, hz⟩ := I.lst e1
        exact wpAny_collect_seq _ (.inl rfl) hob rfl rfl (fun h' k => ⟨I.kept (t' := s.toks) k, _, by simpa using rits, rr⟩) (by rw [List.size_toArray, ← rits.length]; exact hz)
    | tuple ys =>
      cases e
      cases rv with
      | tup e1 rr =>
        cases ru
        obtain ⟨its, rits, ⟨o, q1, q2, n, q3⟩, hz⟩ := I.tuple e1.sq
        exact wpAny_collect_seq _ (.inr rfl) q1 q2 q3 (fun h' k => ⟨I.kept (t' := s.toks) k, _, by simpa using rits, rr⟩) (by rw [List.size_toArray, ← rits.length]; exact hz)
    | _ => cases e
  | dic kvs =>
    cases rv with
    | dic e1 nl R hk nd =>
      cases ru
      cases e
      obtain ⟨y1, y2, o, ents, ep, q1, q2, q3, M, P⟩ := dic_open I e1 R hk nd
      have hsz : ents.size ≤ sizeLine := by rw [M.len, List.length_map]; rw [List.length_map] at hl; exact hl
      refine PySem.W.kdu_collect (A := X.A.in1) (L2.kdl_raw y1 q2 q3) (I.ok.hd hc) q1 hsz fun h' tk acc hk' hacc => ⟨I.kept hk', ?_⟩
      have g : ∀ {kvs : List (PyData × PyData)} {es : List (Int × V × V)} {ents : List DictEntry}, DicR X.K X.w (Lv h μ) H kvs es → Paired (fun (p : Int × V × V) (e : DictEntry) => e.hash = p.1 ∧ RelV p.2.1 e.key ∧ RelV p.2.2 e.val) es ents → ∃ ws, Vals ws (ents.map (·.key)) ∧ RpAll X.K (Lv h μ) H ws (kvs.map (·.1)) := by
        intro kvs es ents R
        induction R generalizing ents with
        | nil => intro P; cases P; exact ⟨[], .nil, .nil⟩
        | cons q _ ih =>
          intro P
          cases P with
          | cons z zs =>
            obtain ⟨ws, w1, w2⟩ := ih zs
            exact ⟨_ :: ws, .cons z.2.1 w1, .cons q.2.1 w2⟩
      obtain ⟨ws, w1, w2⟩ := g R P
      refine ⟨ws, ?_, w2⟩
      have ea : acc.toList = ents.toList.map (·.key) := by
        apply List.ext_getElem?
        intro i
        by_cases hi : i < acc.size
        · obtain ⟨en, e3, e4⟩ := hacc.2 i acc[i] (Array.getElem?_eq_getElem hi)
          rw [Array.getElem?_toList, Array.getElem?_eq_getElem hi, List.getElem?_map, Array.getElem?_toList, e3, e4]
          rfl
        · rw [List.getElem?_eq_none (by rw [Array.length_toList]; omega), List.getElem?_eq_none (by rw [List.length_map, Array.length_toList, ← hacc.1]; omega)]
      rw [ea]
      exact w1
  | _ => cases e
def srtM : D → M D := fun x h => match x with
  | .st xs => (match strsOf xs with | some _ => .ok (.dat (.list (sortD xs xs))) h | none => .no)
  | x => (match srtOf h x with
      | some xs => if sortOk xs then .ok (.dat (.list (sortD xs xs))) h else .no
      | none => .no)
def rSrt (K : PySem.W.Frag) (w : World) (T : List (Addr × Str)) : List V → Hp → VK → Prop := fun vs H Q => ∃ h μ x, (∃ v, vs = [v] ∧ RpD K w h μ H v x) ∧ HRel K w T H h μ ∧
  Go K w T EF h μ H (srtM x) fun d h' μ' H' => ∀ v, RpD K w h' μ' H' v d → Q v H'
/-- texts sorted: the order they come in is nothing -/
theorem strs_alike : ∀ {xs : List PyData} {ss : List Str}, strsOf xs = some ss → xs = ss.map .str
  | [], _, e => by cases e; rfl
  | d :: r, _, e => by
    cases d with
    | str b =>
      obtain ⟨ls', e2, e3⟩ := map_some (show (strsOf r).map (b :: ·) = some _ from e)
      subst e3
      rw [List.map_cons, ← strs_alike e2]
    | _ => cases e
theorem sort_strs {ss ss' : List Str} (p : ss'.Perm ss) (nd : ss.Nodup) : sortD (ss'.map .str) (ss'.map .str) = sortD (ss.map .str) (ss.map .str) := by
  have z : ∀ l : List PyData, sortD l l = l.mergeSort fun a b => !PySem.W.dataLt b a := fun l => by
    unfold sortD
    have e1 : l.zip l = l.map fun x => (x, x) := by
      induction l with
      | nil => rfl
      | cons a l ih => rw [List.zip_cons_cons, ih]; rfl
    rw [e1, PySem.W.sort_maps (s := fun a b => !PySem.W.dataLt b a) (fun p : PyData × PyData => p.2) (fun a ha b hb => ?_), List.map_map]
    · show (l.map fun x => x).mergeSort _ = _
      rw [List.map_id']
    · obtain ⟨x, _, rfl⟩ := List.mem_map.mp ha
      obtain ⟨y, _, rfl⟩ := List.mem_map.mp hb
      rfl
  rw [z, z]
  have tot : PySem.W.TotalLe fun a b : PyData => !PySem.W.dataLt b a := PySem.W.sortLe_total (listOrd itemOrd) false fun d : PyData => PySem.W.keyToks d
  have same : ∀ c a : Str, PySem.W.sameRank (fun a b : PyData => !PySem.W.dataLt b a) (.str c) (.str a) = true → c = a := fun c a h => by
    unfold PySem.W.sameRank at h
    simp only [Bool.and_eq_true, Bool.not_eq_true'] at h
    rw [PySem.W.dataLt_str, PySem.W.dataLt_str] at h
    have h1 := of_decide_eq_false h.1
    have h2 := of_decide_eq_false h.2
    have h3 : c.cps.toList = a.cps.toList := List.le_antisymm (List.not_lt.mp h1) (List.not_lt.mp h2)
    cases c; cases a
    simp only [Str.mk.injEq]
    exact Array.toList_inj.mp h3
  refine PySem.W.sort_one tot _ _ (PySem.W.sort_pairwise tot _) (PySem.W.sort_pairwise tot _) fun c => ?_
  rw [PySem.W.sort_stable tot, PySem.W.sort_stable tot]
  -- the groups
  have pm : ((ss'.map PyData.str).filter (PySem.W.sameRank (fun a b : PyData => !PySem.W.dataLt b a) c)).Perm ((ss.map PyData.str).filter (PySem.W.sameRank (fun a b : PyData => !PySem.W.dataLt b a) c)) := (p.map _).filter _
  have al : ∀ a ∈ (ss.map PyData.str).filter (PySem.W.sameRank (fun a b : PyData => !PySem.W.dataLt b a) c), ∀ b ∈ (ss.map PyData.str).filter (PySem.W.sameRank (fun a b : PyData => !PySem.W.dataLt b a) c), a = b := fun a ha b hb => by
    obtain ⟨ha1, ha2⟩ := List.mem_filter.mp ha
    obtain ⟨hb1, hb2⟩ := List.mem_filter.mp hb
    obtain ⟨x, _, rfl⟩ := List.mem_map.mp ha1
    obtain ⟨y, _, rfl⟩ := List.mem_map.mp hb1
    have : PySem.W.sameRank (fun a b : PyData => !PySem.W.dataLt b a) (.str x) (.str y) = true := by
      unfold PySem.W.sameRank at ha2 hb2 ⊢
      rw [Bool.and_eq_true] at ha2 hb2 ⊢
      exact ⟨tot.trans _ _ _ ha2.2 hb2.1, tot.trans _ _ _ hb2.2 ha2.1⟩
    rw [same x y this]
  exact List.Perm.eq_of_length_le_one_or pm al
where
  List.Perm.eq_of_length_le_one_or {l' l : List PyData} (p : l'.Perm l) (al : ∀ a ∈ l, ∀ b ∈ l, a = b) : l' = l := by
    apply List.ext_getElem p.length_eq
    intro i h1 h2
    exact al _ (p.mem_iff.mp (List.getElem_mem h1)) _ (List.getElem_mem h2)
end
end DL
end
section
set_option Elab.async false
set_option linter.all false
set_option autoImplicit false
set_option maxRecDepth 100000
/-! The data layer, part z: the calls of built-ins. -/
namespace DL
open PySem PySem.Spec PyProof.Rows L2
section
variable {X : Cx} {T : List (Addr × Str)}
theorem strs_ok (ss : List Str) (hl : ss.length ≤ 16777216) : sortOk (ss.map .str) = true := by
  unfold sortOk allAlike
  simp only [Bool.and_eq_true, List.all_eq_true, decide_eq_true_eq]
  refine ⟨⟨fun d hd d' hd' => ?_, fun d hd => ?_⟩, by rw [List.length_map]; exact hl⟩
  · obtain ⟨x, _, rfl⟩ := List.mem_map.mp hd
    obtain ⟨y, _, rfl⟩ := List.mem_map.mp hd'
    simp [PySem.W.alike]
  · obtain ⟨x, _, rfl⟩ := List.mem_map.mp hd
    exact ⟨by rw [PyData.depth]; exact Nat.zero_le _, rfl⟩
theorem each_map {es : List (Int × Value)} {l' : List Str} (e : PySem.W.EachIs (fun (e : Int × Value) k => ∃ u, e.2 = .str k u) es l') : PySem.W.EachIs (fun (v : Value) k => ∃ u, v = .str k u) (es.map (·.2)) l' := by
  induction e with
  | nil => exact .nil
  | cons r _ ih => exact .cons r ih
theorem each_vals {us : List Value} {l : List Str} (e : PySem.W.EachIs (fun (v : Value) k => ∃ u, v = .str k u) us l) : Vals (l.map V.str) us := by
  induction e with
  | nil => exact .nil
  | cons r _ ih => exact .cons r ih
theorem srt_ns {x d : D} {h h' : Store} (hx : ∀ xs, x ≠ .st xs) (e : srtM x h = Res.ok d h') : ∃ xs, srtOf h x = some xs ∧ sortOk xs = true ∧ d = .dat (.list (sortD xs xs)) ∧ h' = h := by
  have g : ∀ o : Option (List PyData), (match o with | some xs => if sortOk xs then Res.ok (D.dat (.list (sortD xs xs))) h else .no | none => .no) = Res.ok d h' → ∃ xs, o = some xs ∧ sortOk xs = true ∧ d = .dat (.list (sortD xs xs)) ∧ h' = h := fun o e => by
    cases o with
    | none => cases e
    | some xs =>
      by_cases ok : sortOk xs = true
      · have e' : (if sortOk xs = true then Res.ok (D.dat (.list (sortD xs xs))) h else .no) = Res.ok d h' := e
        rw [if_pos ok] at e'
        cases e'
        exact ⟨xs, rfl, ok, rfl, rfl⟩
      · have e' : (if sortOk xs = true then Res.ok (D.dat (.list (sortD xs xs))) h else .no) = Res.ok d h' := e
        rw [if_neg ok] at e'
        cases e'
  cases x with
  | st xs => exact absurd rfl (hx xs)
  | dat d => exact g _ e
  | «mut» l => exact g _ e
  | ro xs => exact g _ e
  | dic kvs => exact g _ e
theorem bi_srt (hu : X.A.units + 66 < cLine) (hc : X.calm = true) : CallR X (.builtin "sorted") (rSrt X.K X.w T) := by
  intro pins s σ H vs us Q I r hq
  obtain ⟨h, μ, x, ⟨v, rfl, rv⟩, R, g⟩ := hq
  obtain ⟨u, rfl, ru⟩ := vals1 r
  obtain ⟨d, h', e, f⟩ := Go.inv g
  cases x with
  | st xs =>
    cases rv with
    | @st a l e1 nl =>
      cases ru
      have e' : (match strsOf (l.map PyData.str) with | some _ => Res.ok (D.dat (.list (sortD (l.map .str) (l.map .str)))) h | none => .no) = Res.ok d h' := e
      split at e'
      · cases e'
        obtain ⟨⟨o, es, ep, t, ho, hex, hd, gd, ⟨l', pl, el⟩, nd, hb, hf, hr, hl⟩, _⟩ := I.hok a _ e1
        refine srt_plain (h := h) (μ := μ) hu R (fun μ' H' s R' v rv => f μ' H' s R' v rv) (args_sorted1 _) ?_
        refine collect_set (A := X.A.in1) (I.ok.hd hc) ⟨o, ho, hex.1, hd⟩ hf hb hr hl fun s1 out k1 hz g1 o1 pm => ⟨?_, ?_⟩
        · obtain ⟨hp1, gg1, d1, tk1, os1⟩ := s1
          obtain rfl : gg1 = s.gens := g1
          obtain rfl : os1 = s.os := o1
          exact I.call (ch := []) (Un.kept k1) (I.hok.kept k1) I.bare (fun _ z => nomatch z)
        · have el2 : PySem.W.EachIs (fun (v : Value) k => ∃ u, v = .str k u) (es.toList.map (·.2)) l' := each_map el
          obtain ⟨l2, p2, e2⟩ := each_perm pm el2
          have pall : l2.Perm l := p2.trans pl
          have hln : l.length ≤ 16777216 := by
            have : l2.length = l.length := pall.length_eq
            have h2 : es.size = l.length := by rw [← Array.length_toList, el.length, pl.length_eq]
            have h3 := fits_of_scanBound hb
            rw [sizeLine_eq] at h3
            omega
          refine ⟨l2.map V.str, l2.map .str, ?_, ?_, strs_ok l2 (by rw [pall.length_eq]; exact hln), sort_strs pall nd⟩
          · exact each_vals e2
          · clear p2 pall e2 hln
            induction l2 with
            | nil => exact .nil
            | cons a l2 ih => exact .cons (.str a) ih
      · cases e'
  | _ =>
    obtain ⟨xs, e2, ok, rfl, rfl⟩ := srt_ns (fun _ z => by cases z) e
    have hl := (sortOk_all ok).2.2.2
    exact srt_plain hu R (fun μ' H' s R' v rv => f μ' H' s R' v rv) (args_sorted1 _) (wpAny_mono (col_of hc I rv ru e2 hl) (fun its s1 ⟨I1, ws, w1, w2⟩ => ⟨I1, ws, xs, w1, w2, ok, rfl⟩) fun _ _ z => z)
theorem strs_vals {K : PySem.W.Frag} {L : Addr → Prop} {H : Hp} : ∀ {vs : List V} {ss : List Str} {us : List Value}, RpAll K L H vs (ss.map .str) → Vals vs us → StrsAre us ss
  | _, [], _, .nil, .nil => .nil
  | _, s :: ss, _, .cons r rs, .cons q qs => by
    cases r
    obtain ⟨t, rfl⟩ := q
    exact .cons s t (strs_vals rs qs)
theorem sput_once : ∀ (ss l : List Str), (ss.map PyData.str).foldl sput (l.map .str) = (ss.foldl (fun l k => if k ∈ l then l else l ++ [k]) l).map .str
  | [], l => rfl
  | k :: ss, l => by
    rw [List.map_cons, List.foldl_cons, List.foldl_cons]
    have e : sput (l.map PyData.str) (.str k) = (if k ∈ l then l else l ++ [k]).map .str := by
      unfold sput
      have e1 : ((l.map PyData.str).any fun x => PyData.eqv x (.str k)) = decide (k ∈ l) := by
        rw [List.any_map]
        induction l with
        | nil => rfl
        | cons y l ih =>
          rw [List.any_cons, ih]
          show ((y == k) || decide (k ∈ l)) = _
          by_cases z : y = k
          · subst z; simp
          · have : (y == k) = false := beq_false_of_ne z
            rw [this]
            have z' : k ≠ y := fun q => z q.symm
            simp [z']
      rw [e1]
      by_cases hk : k ∈ l
      · rw [if_pos (decide_eq_true hk), if_pos hk]
      · rw [if_neg (by simpa using hk), if_neg hk, List.map_append]; rfl
    rw [e]
    exact sput_once ss _
theorem bi_set (hc : X.calm = true) : CallR X (.type "set") (rBi X.K X.w T .set) := by
  intro pins s σ H vs us Q I r hq
  obtain ⟨h, μ, ds, d, rs, R, e, f⟩ := hq
  unfold opBi at e
  split at e <;> first | (rename_i q; cases q; done) | (cases e; done) | skip
  obtain ⟨v, rfl, rv⟩ := one_rep rs
  obtain ⟨ss, e1, e2⟩ := Option.bind_eq_some_iff.mp e
  by_cases hl : ss.length ≤ 1000
  · rw [if_pos (decide_eq_true hl)] at e2
    cases e2
    have ex := strs_alike e1
    subst ex
    cases rv with | dat rv => cases rv with | @lst a vs ds e3 nl rr =>
      obtain ⟨u, rfl, ru⟩ := vals1 r
      obtain rfl : u = Value.ref a := ru
      obtain ⟨its, n, rits, hob, hz⟩ := I.lst e3
      have hst := strs_vals rr rits
      refine call_set_texts ss (I.ok.hd hc) ⟨_, hob, rfl, n, rfl⟩ (by simpa using hst) (by unfold scanBound; omega) fun h' tk hS k => ?_
      have hn : H s.heap.objs.size = none := I.hok.fresh (Nat.le_refl _)
      refine ⟨.ref _, upd H s.heap.objs.size (setSO X.w s.heap.objs.size (once ss)), I.laid (t' := tk) k (Nat.le_refl _) ⟨hS, (let ⟨o, _, _, _, ho, _⟩ := hS; ⟨o, ho⟩), fun h1 h2 p q => SetS.at p q⟩, rfl, f.new R hn ?_⟩
      have := sput_once ss []
      rw [List.map_nil] at this
      rw [this]
      exact .st upd_same (R.fresh hn)
  · rw [if_neg (by simpa using hl)] at e2; cases e2
/-- sorted(e, key=f), f's address fa -/
def rSrtf (K : PySem.W.Frag) (w : World) (T : List (Addr × Str)) (PP : Hp → Prop) (fv : V) (kM : PyData → M D) : List V → List V → Hp → VK → Prop := fun vs zs H Q => ∃ h μ x, (∃ v, vs = [v] ∧ RpD K w h μ H v x) ∧ zs = [fv] ∧ PP H ∧ HRel K w T H h μ ∧
  Go K w T EF h μ H ((M.rd fun h => srtOf h x).bind fun xs => (quiet (mapM' kM xs)).bind fun ks => if sortOk ks then .ret (.dat (.list (sortD ks xs))) else .no) fun d h' μ' H' => ∀ v, RpD K w h' μ' H' v d → Q v H'
theorem bi_srtf {fa : Addr} {kM : PyData → M D} {PP : Hp → Prop} (hu : X.A.units + 66 < cLine) (hc : X.calm = true) (turn : ∀ σ, KeyTurn X T PP σ (.ref fa) kM) : CallRK X (.builtin "sorted") [Str.ofString "key"] (rSrtf X.K X.w T PP (.ref fa) kM) := by
  intro pins s σ H vs zs us ws Q I r rz hq
  obtain ⟨h, μ, x, ⟨v, rfl, rv⟩, rfl, hP, R, g⟩ := hq
  obtain ⟨u, rfl, ru⟩ := vals1 r
  obtain ⟨w1, rfl, e1⟩ := vals1 rz
  obtain rfl : w1 = Value.ref fa := e1
  obtain ⟨d, h', e, f⟩ := Go.inv g
  obtain ⟨xs, h1, e2, e3⟩ := M.bind_inv e
  obtain ⟨e2, rfl⟩ := M.rd_inv e2
  obtain ⟨ks, h2, e4, e5⟩ := M.bind_inv e3
  have e4 := quiet_inv e4
  by_cases ok : sortOk ks = true
  · rw [if_pos ok] at e5
    obtain ⟨rfl, rfl⟩ := M.ret_inv e5
    have hl : xs.length ≤ sizeLine := by rw [← mapM_len e4]; exact (sortOk_all ok).2.2.2
    exact srt_keyed hP hu R (ksk_s1 _ _) (fun _ => ksk_l1 _ _) (fun _ => ksk_t1 _ _) (turn σ) e4 ok f (col_of hc I rv ru e2 hl)
  · rw [if_neg ok] at e5; cases e5
end
end DL
end
section
set_option Elab.async false
set_option linter.all false
set_option autoImplicit false
set_option maxRecDepth 100000
/-! The data layer, part ma: calls of built-ins, by the syntax. -/
namespace DL
open PySem PySem.Spec PyProof.Rows L2
def biName : Bi → Str
  | .len => "len"
  | .abs => "abs"
  | .int => "int"
  | .tuple => "tuple"
  | .list => "list"
  | .all => "all"
  | .any => "any"
  | .sum2 => "sum"
  | .set => "set"
  | .dict => "dict"
  | .repr => "repr"
def tyName : Ty → String
  | .int => "int"
  | .str => "str"
  | .bool => "bool"
  | .tuple => "tuple"
  | .list => "list"
theorem ty_boot (t : Ty) : bootBuiltins (Str.ofString (tyName t)) = some (.type (tyName t)) := by cases t <;> decide +kernel
section
variable {X : Cx} {T : List (Addr × Str)} {C : Nat → List D → M D} {pos p : Pos} {e : Expr} {es : List Expr} {xs : Exs}
theorem bi_read {b : Bi} (σ : L2.St) (H : Hp) (Q : VK) (h : tD X.K X.w T EF C (.bi b xs) σ H Q) : tCB (rBi X.K X.w T b) (tDs X.K X.w T EF C xs) σ H Q := by
  obtain ⟨ρ, h, μ, en, R, g⟩ := h
  refine ⟨ρ, h, μ, en, R, (Go.bind g).mono fun ds h1 μ1 H1 s1 R1 g1 vs rs => ?_⟩
  obtain ⟨d, e, f⟩ := Go.rd g1
  exact ⟨h1, μ1, ds, d, rs, R1, e, f⟩
theorem pd_bi {b : Bi} (hu : X.A.units + 70 < cLine) (hc : X.calm = true) (hgd : X.A.guards = some []) (hg : Gl X (biName b)) (hm : X.mg (biName b) = none) (ha : PDA X T EF C (e :: es) xs) (hn : ∀ u v, e ≠ .Starred u v) (hpl : (backTo pos (starEach es X.env)).any (·.1) = false) :
    PDE X T EF C (.Call (.Name (biName b) p) (e :: es) [] pos) (.bi b xs) := by
  have he := starEach_ne (es := es) (env := X.env) hn
  cases b with
  | len => exact (pe_callB (bi_len (T := T)) hg hm (by decide +kernel) ha (by decide) (by decide) he hpl).imp bi_read
  | abs => exact (pe_callB (bi_abs (T := T)) hg hm (by decide +kernel) ha (by decide) (by decide) he hpl).imp bi_read
  | int => exact (pe_callTy (bi_int (T := T)) hg hm (by decide +kernel) ha (by decide) (by decide) he hpl).imp bi_read
  | tuple => exact (pe_callTy (bi_tuple (T := T)) hg hm (by decide +kernel) ha (by decide) (by decide) he hpl).imp bi_read
  | list => exact (pe_callTy (bi_list (T := T)) hg hm (by decide +kernel) ha (by decide) (by decide) he hpl).imp bi_read
  | all => exact (pe_callB (bi_all (T := T) hc) hg hm (by decide +kernel) ha (by decide) (by decide) he hpl).imp bi_read
  | any => exact (pe_callB (bi_any (T := T) hc) hg hm (by decide +kernel) ha (by decide) (by decide) he hpl).imp bi_read
  | sum2 => exact (pe_callB (bi_sum2 (T := T) hc) hg hm (by decide +kernel) ha (by decide) (by decide) he hpl).imp bi_read
  | set => exact (pe_callTy (bi_set (T := T) hc) hg hm (by decide +kernel) ha (by decide) (by decide) he hpl).imp bi_read
  | dict => exact (pe_callTy (bi_dict (T := T) (by omega) hc) hg hm (by decide +kernel) ha (by decide) (by decide) he hpl).imp bi_read
  | repr => exact (pe_callB (bi_repr (T := T) hu hgd) hg hm (by decide +kernel) ha (by decide) (by decide) he hpl).imp bi_read
theorem pd_srt {x : Ex} (hu : X.A.units + 66 < cLine) (hc : X.calm = true) (hg : Gl X "sorted") (hm : X.mg "sorted" = none) (he : PDE X T EF C e x) (hn : ∀ u v, e ≠ .Starred u v) : PDE X T EF C (.Call (.Name "sorted" p) [e] [] pos) (.srt x) :=
  (pe_callB (bi_srt (T := T) hu hc) hg hm (by decide +kernel) (pda_cons (T := T) (E := EF) (C := C) he pda_nil hn) (by decide) (by decide) (starEach_ne hn) rfl).imp fun σ H Q ⟨ρ, h, μ, en, R, g⟩ => ⟨ρ, h, μ, en, R, by
    refine (Go.one (Go.bind (show Go X.K X.w T EF h μ H ((den C x ρ).bind srtM) _ from g))).mono fun ds h1 μ1 H1 s1 R1 ⟨d, e, g1⟩ vs rs => ?_
    subst e
    obtain ⟨v, rfl, rv⟩ := one_rep rs
    exact ⟨h1, μ1, d, ⟨v, rfl, rv⟩, R1, g1⟩⟩
/-- sorted(e, key=g) -/
theorem pd_srtk {x : Ex} {fv : Expr} {fa : Addr} {kM : PyData → M D} {PP : Hp → Prop} {kp : Pos} {tk : TE} {y : Ex} (hu : X.A.units + 66 < cLine) (hc : X.calm = true) (hg : Gl X "sorted") (hm : X.mg "sorted" = none) (he : PDE X T EF C e x) (hn : ∀ u v, e ≠ .Starred u v)
    (turn : ∀ σ, KeyTurn X T PP σ (.ref fa) kM) (hf : PE X fv tk) (hk : ∀ σ h μ H Q, HRel X.K X.w T H h μ → (∀ μ' H', Step h μ H h μ' H' → HRel X.K X.w T H' h μ' → PP H' → Q (.ref fa) H') → tk σ H Q)
    (hy : ∀ ρ, den C y ρ = (den C x ρ).bind fun x => (M.rd fun h => srtOf h x).bind fun xs => (quiet (mapM' kM xs)).bind fun ks => if sortOk ks then .ret (.dat (.list (sortD ks xs))) else .no) :
    PDE X T EF C (.Call (.Name "sorted" p) [e] [⟨some "key", fv, kp⟩] pos) y :=
  (pe_callBK (bi_srtf (T := T) hu hc turn) hg hm (by decide +kernel) (pda_cons (T := T) (E := EF) (C := C) he pda_nil hn) (pk_cons hf pk_nil) (by decide) (by decide) (by rw [starEach_ne hn]; rfl) (by rw [starEach_ne hn]; rfl)).imp fun σ H Q ⟨ρ, h, μ, en, R, g⟩ => ⟨ρ, h, μ, en, R, by
    rw [hy] at g
    refine (Go.one (Go.bind g)).mono fun ds h1 μ1 H1 s1 R1 ⟨d, e, g1⟩ vs rs => ?_
    subst e
    obtain ⟨v, rfl, rv⟩ := one_rep rs
    refine hk σ h1 μ1 H1 _ R1 fun μ2 H2 s2 R2 hp => ?_
    refine ⟨h1, μ2, d, ⟨v, rfl, rv.step s2⟩, rfl, hp, R2, ?_⟩
    obtain ⟨a, h', e1, f⟩ := Go.inv g1
    exact Go.ok e1 fun μ' H' s R' => f μ' H' (s2.trans s) R'⟩
/-- isinstance -/
theorem isi_rep {K : PySem.W.Frag} {w : World} {h : Store} {μ : Mu} {H : Hp} {v : V} {x : D} {t : Ty} {b : Bool} (r : RpD K w h μ H v x) (e : opIsi t x = some b) : ∃ a : String, TyX K H v (.type a) ∧ kitB a (tyName t) = some b := by
  cases r with
  | dat r =>
    have e' := Option.some.inj e
    cases r with
    | non => exact ⟨"NoneType", .base .non, by cases t <;> (subst e'; first | exact (show kitB _ _ = some true by decide +kernel) | exact (show kitB _ _ = some false by decide +kernel))⟩
    | bl c => exact ⟨"bool", .base (.bl _), by cases t <;> (subst e'; first | exact (show kitB _ _ = some true by decide +kernel) | exact (show kitB _ _ = some false by decide +kernel))⟩
    | int i => exact ⟨"int", .base (.int _), by cases t <;> (subst e'; first | exact (show kitB _ _ = some true by decide +kernel) | exact (show kitB _ _ = some false by decide +kernel))⟩
    | str z => exact ⟨"str", .base (.str _), by cases t <;> (subst e'; first | exact (show kitB _ _ = some true by decide +kernel) | exact (show kitB _ _ = some false by decide +kernel))⟩
    | lst e1 _ _ => exact ⟨"list", .base (.lst e1), by cases t <;> (subst e'; first | exact (show kitB _ _ = some true by decide +kernel) | exact (show kitB _ _ = some false by decide +kernel))⟩
    | tup e1 _ =>
      refine ⟨"tuple", ?_, by cases t <;> (subst e'; first | exact (show kitB _ _ = some true by decide +kernel) | exact (show kitB _ _ = some false by decide +kernel))⟩
      rcases e1 with ⟨e1 | ⟨o, e1⟩, _⟩ | ⟨o, its, n, e1, e2, _⟩
      · exact .base (.tup e1)
      · exact .fTuple e1
      · exact .kTuple e1 e2
  | _ => cases e
theorem pd_isi {x : Ex} {t : Ty} {p2 : Pos} (hg : Gl X "isinstance") (hm : X.mg "isinstance" = none) (hg2 : Gl X (Str.ofString (tyName t))) (hm2 : X.mg (Str.ofString (tyName t)) = none) (he : PDE X T EF C e x) (hn : ∀ u v, e ≠ .Starred u v) :
    PDE X T EF C (.Call (.Name "isinstance" p) [e, .Name (Str.ofString (tyName t)) p2] [] pos) (.isi x t) := by
  have ht : PE X (.Name (Str.ofString (tyName t)) p2) (L2.tC (V.ty (tyName t))) := pe_bltn hg2 hm2 (ty_boot t) rfl (by cases t <;> decide) (by cases t <;> decide)
  refine (pe_callB (call_isi (X := X)) hg hm (by decide +kernel) (pa_cons he (pa_cons ht pa_nil) (starEach_ne hn)) (by decide) (by decide) (starEach_ne hn) rfl).imp fun σ H Q ⟨ρ, h, μ, en, R, g⟩ => ⟨ρ, h, μ, en, R, (Go.bind g).mono fun d h1 μ1 H1 s1 R1 g1 v rv => ?_⟩
  obtain ⟨d', e1, f⟩ := Go.opt g1
  obtain ⟨b, e2, rfl⟩ := map_some e1
  obtain ⟨a, ty, k⟩ := isi_rep rv e2
  exact ⟨v, _, _, _, b, rfl, .ty _, ty, kit_ty k, f μ1 H1 .refl R1 _ (.dat (.bl b))⟩
/-- o.get(k, d) -/
theorem pd_get2 {o k d : Expr} {x y z : Ex} {m : Str} {apos : Pos} (hm : m = "get") (hu : X.A.units + 9 < cLine) (ho : PDE X T EF C o x) (hk : PDE X T EF C k y) (hd : PDE X T EF C d z) (hb : notBare o = true) (hl : (apos.endLine == pos.line) = true) (hn : ∀ u v, k ≠ .Starred u v) (hn2 : ∀ u v, d ≠ .Starred u v) :
    PDE X T EF C (.Call (.Attribute o m apos) [k, d] [] pos) (.get2 x y z) := by
  subst hm
  have hs : starEach [k, d] X.env = [(false, eval k X.env), (false, eval d X.env)] := by rw [starEach_ne hn, starEach_ne hn2]; rfl
  refine ⟨fun pins s σ H Q I hq => ?_⟩
  obtain ⟨ρ, h, μ, en, R, g⟩ := hq
  obtain ⟨r, hE, eE, f⟩ := Go.inv g
  obtain ⟨d1, h1, q1, eE⟩ := M.bind_inv eE
  obtain ⟨d2, h2, q2, eE⟩ := M.bind_inv eE
  obtain ⟨d3, h3, q3, eE⟩ := M.bind_inv eE
  cases d1 with
  | dic kvs =>
   cases d2 with
   | dat dk =>
    have eE : (if keyOk8 dk = true then (match dgetD kvs dk with | some v => M.ret (.dat v) | none => M.ret d3) else M.no : M D) h3 = .ok r hE := eE
    by_cases ok : keyOk8 dk = true
    · rw [if_pos ok] at eE
      refine wpAny_Call_method (base_nb hb) (by rw [hs]; rfl) hl PySem.F.plainAttrs_dict PySem.F.slot_dict_get PySem.F.type_dict_get (thn (ho.run pins s σ H (fun v H' => ∃ μ', RpD X.K X.w h1 μ' H' v (.dic kvs) ∧ Step h μ H h1 μ' H' ∧ HRel X.K X.w T H' h1 μ') I
        ⟨ρ, h, μ, en, R, Go.ok q1 fun μ' H' s R' v rv => ⟨μ', rv, s, R'⟩⟩) fun u s1 ⟨v1, H1, I1, rx, μ1, rv1, st1, R1⟩ => ?_)
      cases rv1 with
      | @dic a _ es e0 nl RD hk8 nd =>
      obtain rfl : u = Value.ref a := rx
      obtain ⟨y1, y2, o', ents, ep, z1, z2, z3, _⟩ := dic_open I1 e0 RD hk8 nd
      refine ⟨(⟨o', z1, z2.1⟩ : s1.TypeIs (.ref a) "dict"), fun a' ea => (by cases ea; exact ⟨o', z1, z2.2.1⟩), ?_⟩
      rw [hs]
      refine Calls.callWith_builtin rfl (Calls.evalArgs_plain (Calls.spliced_cons (thn (hk.run pins s1 σ H1 (fun v H' => ∃ μ', RpD X.K X.w h2 μ' H' v (.dat dk) ∧ Step h1 μ1 H1 h2 μ' H' ∧ HRel X.K X.w T H' h2 μ') I1
        ⟨ρ, h1, μ1, en.step st1, R1, Go.ok q2 fun μ' H' s R' v rv => ⟨μ', rv, s, R'⟩⟩) fun iv s2 ⟨v2, H2, I2, r2, μ2, rv2, st2, R2⟩ =>
        Calls.spliced_cons (thn (hd.run pins s2 σ H2 (fun v H' => ∃ μ', RpD X.K X.w h3 μ' H' v d3 ∧ Step h2 μ2 H2 h3 μ' H' ∧ HRel X.K X.w T H' h3 μ') I2
        ⟨ρ, h2, μ2, (en.step st1).step st2, R2, Go.ok q3 fun μ' H' s R' v rv => ⟨μ', rv, s, R'⟩⟩) fun fv s3 ⟨v3, H3, I3, r3, μ3, rv3, st3, R3⟩ => Calls.spliced_nil ?_))))
      have rdic := (RpD.dic e0 nl RD hk8 nd).step (st2.trans st3)
      have rk := rv2.step st3
      cases rdic with
      | dic e0' nl' RD' hk8' nd' =>
      cases rk with | dat rk =>
      refine d_get (z := v3) hu I3 e0' RD' hk8' nd' rk ok r2 (fun s' dv v w' ed I4 rr rw' => ?_) fun s' ed I4 => ?_
      · rw [ed] at eE
        obtain ⟨rfl, rfl⟩ := M.ret_inv eE
        exact ⟨v, H3, I4, rw', f μ3 H3 ((st1.trans st2).trans st3) R3 v (.dat rr)⟩
      · rw [ed] at eE
        obtain ⟨rfl, rfl⟩ := M.ret_inv eE
        exact ⟨v3, H3, I4, r3, f μ3 H3 ((st1.trans st2).trans st3) R3 v3 rv3⟩
    · rw [if_neg ok] at eE; cases eE
   | _ => cases eE
  | _ => cases eE
end
end DL
end
section
set_option Elab.async false
set_option linter.all false
set_option autoImplicit false
set_option maxRecDepth 100000
/-! The data layer, part mb: what a def promises, calls of defs, defs as keys. -/
namespace DL
open PySem PySem.Spec PyProof.Rows L2
abbrev CXN : CXT := fun _ _ _ _ _ _ => False
abbrev E0N : XK := fun _ _ _ => False
/-- a def's promise where no guard stands -/
structure FnG (P : Program) (w : World) (K : PySem.W.Frag) (mg : Str → Option Value) (base : Heap) (n : Nat) (f : Addr) (fd : FuncData) (ps : List Str) (sp : List V → Hp → VK → Prop) : Prop where
  len : ∀ vs H Q, sp vs H Q → vs.length = ps.length
  run : ∀ (A : Around) (outer : List Env) (s : Shared) (H : Hp) (args : Args) (us : List Value) (vs : List V) (Q : VK), Room n A → A.guards = some [] → Env0 P w K mg base A outer s H → BindsTo s fd args (ps.zip us) → Vals vs us → sp vs H Q →
    codeAny (model P w) A (.call (.ref f) args) (CR CXN outer P w H s Q E0N) s
/-- what a body may lean on -/
structure RB (n : Nat) (A : Around) : Prop where
  hd : A.handled = none
  dp : A.depth + 3 * n + 7 < recursionLimit
  un : A.units + 16 * n + 213 < cLine
  gd : A.guards = some []
/-- within a lambda -/
structure RBl (n : Nat) (A : Around) : Prop where
  hd : A.handled = none
  dp : A.depth + 3 * n + 5 < recursionLimit
  un : A.units + 16 * n + 202 < cLine
  gd : A.guards = some []
theorem RB.of {n : Nat} {A : Around} (r : Room (n + 1) A) (g : A.guards = some []) (env : Env) : RB n (A.deeper env) :=
  ⟨r.hd, by have := r.dp; show A.depth + 1 + 3 * n + 7 < _; omega, by have := r.un; show A.units + 3 + 16 * n + 213 < _; omega, g⟩
theorem RB.l {n : Nat} {A : Around} (r : RB n A) : RBl n A := ⟨r.hd, by have := r.dp; omega, by have := r.un; omega, r.gd⟩
theorem RB.lam {n : Nat} {A : Around} (r : RB n A) (env : Env) : RBl n (A.in1.in1.deeper env) :=
  ⟨r.hd, by have := r.dp; show A.depth + 1 + 3 * n + 5 < _; omega, by have := r.un; show A.units + 1 + 1 + 3 + 16 * n + 202 < _; omega, r.gd⟩
theorem RBl.room {n : Nat} {A : Around} (r : RBl n A) : Room n A := ⟨r.hd, r.dp, by have := r.un; omega⟩
theorem RBl.room2 {n : Nat} {A : Around} (r : RBl n A) : Room n A.in1.in1 := ⟨r.hd, r.dp, by have := r.un; show A.units + 1 + 1 + 16 * n + 200 < _; omega⟩
theorem RBl.u {n : Nat} {A : Around} (r : RBl n A) : A.units + 200 < cLine := by have := r.un; omega
def spD (K : PySem.W.Frag) (w : World) (T : List (Addr × Str)) (TT : List Fn) (ps : List Str) (n i : Nat) : List V → Hp → VK → Prop := fun vs H Q => vs.length = ps.length ∧ ∃ ds h μ, RpDs K w h μ H vs ds ∧ HRel K w T H h μ ∧
  Go K w T EF h μ H (callN TT n i ds) fun d h' μ' H' => ∀ v, RpD K w h' μ' H' v d → Q v H'
section
variable {P : Program} {w : World} {K : PySem.W.Frag} {mg : Str → Option Value} {base : Heap} {T : List (Addr × Str)}
theorem start_env {h : Store} {μ : Mu} {H : Hp} {N ps : List Str} {vs : List V} {ds : List D} (rs : RpDs K w h μ H vs ds) (hl : vs.length = ps.length) : EnvR K w h μ H (L2.start N vs) (ds.map some ++ List.replicate (N.length - ps.length) none) := by
  have hl2 := rs.length
  refine ⟨by unfold L2.start; rw [List.length_append, List.length_append, List.length_map, List.length_map, hl2, List.length_replicate, List.length_replicate, ← hl, ← hl2], fun i d q => ?_⟩
  by_cases hi : i < ds.length
  · rw [List.getElem?_append_left (by rw [List.length_map]; exact hi), List.getElem?_map] at q
    obtain ⟨d', e, e2⟩ := Option.map_eq_some_iff.mp q
    cases e2
    obtain ⟨v, hv, rv⟩ := rs.get e
    refine ⟨v, ?_, rv⟩
    unfold L2.start
    rw [List.getElem?_append_left (by rw [List.length_map, hl2]; exact hi), List.getElem?_map, hv]; rfl
  · rw [List.getElem?_append_right (by rw [List.length_map]; omega), List.getElem?_replicate] at q
    split at q <;> cases q
/-- a def of the text -/
theorem fnG_of {TT : List Fn} {k i : Nat} {fn : Fn} {f : Addr} {name qual : Str} {params : Arguments} {body : List Stmt} {scope : Scope} {dV kV doc pm cdv ct oc : Value} {an od : Option Addr} {osl : Array (Option Value)} {N ps : List Str}
    (lk : K.lookup f = some ⟨oc, od, .func (PySem.W.fnOf name qual params body scope dV kV doc pm an cdv ct), osl⟩) (hcd : PySem.W.codeIn K cdv qual = true) (S : FnScope N ps scope) (hi : TT[i]? = some fn) (hn : fn.n = N.length) (hp : fn.ps = ps.length)
    (hbody : ∀ (A : Around) (outer : List Env) (s : Shared) (H : Hp), RB k (A.deeper (envOfC qual scope s.heap.objs.size f cdv)) → PSs (cxOf CXN P w K mg base N qual scope f cdv A outer s H E0N).nox body (tG K w T (denSs (callN TT k) fn.body))) :
    FnG P w K mg base (k + 1) f (PySem.W.fnOf name qual params body scope dV kV doc pm an cdv ct) ps (spD K w T TT ps (k + 1) i) := by
  refine ⟨fun vs H Q h => h.1, fun A outer s H args us vs Q hr hg e0 hb r hsp => ?_⟩
  obtain ⟨hl, ds, h, μ, rs, R, g⟩ := hsp
  refine LamX.run_ofS lk hcd S hr e0 hb r hl fun _ => ⟨_, (hbody A outer s H (RB.of hr hg _)).nox, _, h, μ, start_env rs hl, R, ?_⟩
  have e : callN TT (k + 1) i ds = runFn (callN TT k) fn ds := by
    show (match TT[i]? with | some fn => runFn (callN TT k) fn ds | none => M.no) = _
    rw [hi]
  rw [e] at g
  unfold runFn at g
  rw [if_pos (by rw [hp, ← hl, rs.length]), hn, hp] at g
  refine (Go.bind g).mono fun o h' μ' H' s1 R1 g1 => ?_
  cases o with
  | nx ρ' => exact fun σ' en' => Go.ret' g1 R1 .non (.dat .non)
  | rt d => exact fun v rv => Go.ret' g1 R1 v rv
end
section
variable {X : Cx} {T : List (Addr × Str)} {pos p : Pos} {e : Expr} {es : List Expr} {xs : Exs} {TT : List Fn} {n i : Nat} {f : Addr} {fd : FuncData} {ps : List Str} {x : Str}
theorem runG {pins : List (Addr × Obj)} {σ : L2.St} {H : Hp} {s : Shared} {A : Around} {Q : VK} {us : List Value} {vs : List V} {sp : List V → Hp → VK → Prop} {E : Value → Shared → Prop} (F : FnG X.prog X.w X.K X.mg X.base n f fd ps sp) (hr : Room n A) (hgd : A.guards = some []) (hb : Binds X.K fd ps [])
    (he : Env0 X.prog X.w X.K X.mg X.base A X.stack s H) (I : Inv X pins σ H s) (r : Vals vs us) (h : sp vs H Q) : wpAny (model X.prog X.w) A (call (.ref f) us) (EP X pins σ Q) E s := by
  have hl : (us ++ []).length = ps.length := by rw [List.append_nil, ← r.length]; exact F.len _ _ _ h
  have hbb := hb s us I.kIn hl
  rw [List.append_nil] at hbb
  refine wpAny_call (codeAny_mono (F.run A X.stack s H ⟨us, []⟩ us vs Q hr hgd he hbb r h) fun r s' hq => ?_)
  cases r with
  | error e => exact (show False from hq).elim
  | ok fl =>
    cases fl with
    | ret u => exact I.after hq
    | next => exact False.elim hq
    | brk => exact False.elim hq
    | cont => exact False.elim hq
theorem pd_call (F : FnG X.prog X.w X.K X.mg X.base n f fd ps (spD X.K X.w T TT ps n i)) (hlen : ∀ ds h, ds.length ≠ ps.length → callN TT n i ds h = .no) (hr : RBl n X.A) (hg : Gl X x) (hm : X.mg x = some (.ref f)) (hk : PySem.W.keepIn X.K (.ref f) = true) (hb : Binds X.K fd ps []) (ha : PDA X T EF (callN TT n) (e :: es) xs)
    (hdb : (x == ("__debug__" : Str)) = false) (hn : ∀ u v, e ≠ .Starred u v) (hpl : (backTo pos (starEach es X.env)).any (·.1) = false) : PDE X T EF (callN TT n) (.Call (.Name x p) (e :: es) [] pos) (.call i xs) := by
  refine ⟨fun pins s σ H Q I hq => ?_⟩
  obtain ⟨ρ, h, μ, en, R, g⟩ := hq
  refine wpAny_Call_Name_kw (ld_glob I hg hm ?_ hdb)
  refine PySem.W.callWith_K (h₀ := X.base) I.ok.mod.kin hk (thn (ha.run pos pins s σ H (fun vs H' => spD X.K X.w T TT ps n i vs H' Q) I ⟨ρ, h, μ, en, R, (Go.bind g).mono fun ds h1 μ1 H1 s1 R1 g1 vs rs => ⟨?_, ds, h1, μ1, rs, R1, g1⟩⟩) fun us s1 ⟨vs, H1, I1, r, q⟩ => ⟨I1.kIn, ?_⟩) (starEach_ne hn) hpl
  · rw [rs.length]
    refine Decidable.byContradiction fun hc => ?_
    exact (Go.of_no (hlen ds h1 hc)).mp g1
  · exact runG F hr.room hr.gd hb I1.env0 I1 r q
/-- a def as a key -/
theorem key_def (F : FnG X.prog X.w X.K X.mg X.base n f fd ps (spD X.K X.w T TT ps n i)) (hlen : ∀ ds h, ds.length ≠ ps.length → callN TT n i ds h = .no) (hr : RBl n X.A) (hb : Binds X.K fd ps []) (σ : L2.St) : KeyTurn X T (fun _ => True) σ (.ref f) (fun d => callN TT n i [.dat d]) := by
  intro pins s H h h2 μ v u d y _ I R ru rv run
  have h1 : ps.length = 1 := Decidable.byContradiction fun hc => by
    have run' : callN TT n i [.dat d] h = .ok (.dat y) h2 := run
    rw [hlen [.dat d] h (fun z => hc z.symm)] at run'; cases run'
  refine wpAny_mono (runG (A := X.A.in1.in1) (E := fun _ _ => False) (Q := fun v2 H2 => ∃ μ2, Step h μ H h2 μ2 H2 ∧ HRel X.K X.w T H2 h2 μ2 ∧ Rp X.K (Lv h2 μ2) H2 v2 y) F hr.room2 hr.gd hb I.env0.in1.in1 I (.cons ru .nil) ⟨h1.symm, [.dat d], h, μ, .cons (.dat rv) .nil, R, Go.ok run fun μ' H' s' R' v' rv' => ?_⟩) (fun w s2 hw => ?_) fun _ _ z => z
  · cases rv' with | dat rv' => exact ⟨μ', s', R', rv'⟩
  · obtain ⟨v2, H2, I2, r2, μ2, st, R2, ry⟩ := hw
    exact ⟨v2, H2, μ2, True.intro, I2, st, R2, r2, ry⟩
theorem pd_srtf {x : Str} {z : Ex} {ap kp : Pos} (F : FnG X.prog X.w X.K X.mg X.base n f fd ps (spD X.K X.w T TT ps n i)) (hlen : ∀ ds h, ds.length ≠ ps.length → callN TT n i ds h = .no) (hr : RBl n X.A) (hc : X.calm = true) (hb : Binds X.K fd ps []) (hg : Gl X "sorted") (hm : X.mg "sorted" = none) (hgx : Gl X x) (hmx : X.mg x = some (.ref f)) (hdb : (x == ("__debug__" : Str)) = false)
    (he : PDE X T EF (callN TT n) e z) (hn : ∀ u v, e ≠ .Starred u v) : PDE X T EF (callN TT n) (.Call (.Name "sorted" p) [e] [⟨some "key", .Name x ap, kp⟩] pos) (.srtf z i) := by
  have hu := hr.u
  exact pd_srtk (by omega) hc hg hm he hn (key_def F hlen hr hb) (pe_glob (v := V.ref f) hgx hmx rfl hdb) (fun σ h μ H Q R k => k μ H .refl R True.intro) fun ρ => rfl
end
end DL
end
section
set_option Elab.async false
set_option linter.all false
set_option autoImplicit false
set_option maxRecDepth 100000
/-! The data layer, part mc: lambdas as keys. -/
namespace DL
open PySem PySem.Spec PyProof.Rows L2
def FunO (f : Addr) (o : Obj) : HO := .ext fun h => h.get? f = some o
section
variable {K : PySem.W.Frag} {w : World} {T : List (Addr × Str)} {h h1 : Store} {μ μ1 : Mu} {H H1 : Hp}
/-- an object that is no list of the store stays -/
theorem Step.keepX (s : Step h μ H h1 μ1 H1) (R : HRel K w T H h μ) {a : Addr} {φ : Heap → Prop} (e : H a = some (.ext φ)) : H1 a = some (.ext φ) := by
  have nl : ¬ Ls h μ a := fun ⟨l, ds, e1, e2⟩ => by
    obtain ⟨vs, e3, _⟩ := R.obj l ds e1
    rw [e2, e] at e3; cases e3
  by_cases z : μ.hid a
  · exact s.same a _ z nl e fun ps q => by cases q
  · exact s.ext a _ e (fun y => y.elim nl z) fun ps q => by cases q
/-- the table of code objects grows -/
theorem Step.tbl {P : Addr} {ps qs : Array Value} (hP : H P = some (.tbl ps)) : Step h μ H h μ (upd H P (.tbl qs)) where
  ext := fun a o e _ nt => by
    rw [upd_ne fun z => nt ps (Option.some.inj (e.symm.trans (by rw [z]; exact hP)))]; exact e
  mu := fun _ _ => rfl
  len := Nat.le_refl _
  liv := fun _ z => .inl z
  there := fun a o e => by
    by_cases z : a = P
    · exact ⟨_, by rw [z, upd_same]⟩
    · exact ⟨o, by rw [upd_ne z]; exact e⟩
  hid := fun _ z => .inl z
  hkp := fun _ z => z
  same := fun a o _ _ e nt => by
    rw [upd_ne fun z => nt ps (Option.some.inj (e.symm.trans (by rw [z]; exact hP)))]; exact e
end
theorem clo_nil {cells : List (Str × Addr)} : ∀ {names : List (Str × NameKind)} {acc : List (Str × Addr)}, (∀ y ∈ names, y.2 ≠ .free) → cloFrom cells names acc = acc
  | [], _, _ => rfl
  | (n, k) :: r, acc, h => by
    have hk : (k == NameKind.free) = false := by
      have := h (n, k) List.mem_cons_self
      cases k <;> first | rfl | exact absurd rfl this
    show (if (k == .free) = true then _ else _) = _
    rw [hk]
    exact clo_nil fun y hy => h y (List.mem_cons_of_mem _ hy)
section
variable {X : Cx} {T : List (Addr × Str)}
/-- what a lambda's making needs -/
structure LamAt (X : Cx) (T : List (Addr × Str)) : Prop where
  ex : ∃ c P, LamX.TabB X.base X.mg c P ∧ X.env.code = .ref c ∧ (P, X.env.qual ++ "<lambda>") ∈ T ∧ ∀ p ∈ T, p.1 = P → p.2 = X.env.qual ++ "<lambda>"
/-- the function object and its code stand -/
def PPl (f c' : Addr) (o : Obj) (q : Str) : Hp → Prop := fun H => H f = some (FunO f o) ∧ H c' = some (LamX.CodeO c' q)
theorem lam_new {pins : List (Addr × Obj)} {σ : L2.St} {H : Hp} {s : Shared} {h : Store} {μ : Mu} {params : Arguments} {body : Expr} {scope : Scope} {pos : Pos} {E : Value → Shared → Prop} {Q : Value → Shared → Prop} (I : Inv X pins σ H s) (R : HRel X.K X.w T H h μ) (L : LamAt X T)
    (hdef : defaultsOf params X.env = ([], [])) (hfree : ∀ y ∈ scope.names, y.2 ≠ .free)
    (fin : ∀ (f c' : Addr) (pm ctv : Value) (H1 : Hp) (s' : Shared), Inv X pins σ H1 s' → Step h μ H h μ H1 → HRel X.K X.w T H1 h μ → PPl f c' (PySem.W.kla_obj "<lambda>" (X.env.qual ++ "<lambda>") params body scope [] pm c' ctv) (X.env.qual ++ "<lambda>") H1 → Q (.ref f) s') :
    wpAny (model X.prog X.w) X.A (eval (.Lambda params body scope pos) X.env) Q E s := by
  obtain ⟨c, P, TB, hcode, hm, hu⟩ := L.ex
  obtain ⟨ps, hP, ht, ha⟩ := R.tab _ hm
  have cl : cloFrom X.env.cells scope.names [] = [] := clo_nil hfree
  have hcl : closureFor scope X.env = pure [] := by rw [closure_ok fun y hy e => absurd e (hfree y hy), cl]
  have bP : s.heap.BuiltinsAt X.mg P := TB.bm.keeps I.bk
  have hP' : s.heap.get? P = some { cls := .none, data := .fields ps } := I.hok P _ hP
  -- the function object is laid
  have last : ∀ (c' : Addr) (pm ctv : Value) (h' : Heap) (tk : Nat) (H1 : Hp), Inv X pins σ H1 { s with heap := h', toks := tk } → Step h μ H h μ H1 → HRel X.K X.w T H1 h μ → H1 c' = some (LamX.CodeO c' (X.env.qual ++ "<lambda>")) → ∀ tk',
      Q (.ref h'.objs.size) { s with heap := h'.push (PySem.W.kla_obj "<lambda>" (X.env.qual ++ "<lambda>") params body scope [] pm c' ctv), toks := tk' } := fun c' pm ctv h' tk H1 I1 st R1 hco tk' => by
    have hn : H1 h'.objs.size = none := I1.hok.fresh (Nat.le_refl _)
    have I2 := I1.laid (t' := tk') (a := h'.objs.size) (o := FunO h'.objs.size (PySem.W.kla_obj "<lambda>" (X.env.qual ++ "<lambda>") params body scope [] pm c' ctv)) (fun b u e => Heap.get?_push_of_some _ e) (Nat.le_refl _)
      ⟨Heap.get?_push_size _ rfl, ⟨_, Heap.get?_push_size _ rfl⟩, fun g1 g2 e k => k _ e⟩
    refine fin _ c' pm ctv _ _ I2 (st.trans (.new hn)) (R1.new hn) ⟨upd_same, ?_⟩
    rw [upd_ne (ne_of_none hco hn)]; exact hco
  refine PySem.W.kla_eval hdef ?_
  cases hc : codeAmong pos ps.toList with
  | some cv =>
    obtain ⟨c', e, hco⟩ := ha pos cv hc
    subst e
    refine PySem.W.kla_makeFunctionHit (mg := X.mg) (c := c) (P := P) (ps := ps) hcl I.ok.glob (I.mod.glob.keeps I.bk) hcode (TB.code.keeps I.bk) hP' ht hc bP fun ctv h' tk hx hsz => ?_
    exact last c' _ ctv h' tk H (I.kept hx) .refl R hco tk
  | none =>
    refine PySem.W.kla_makeFunction (mg := X.mg) (c := c) (P := P) (ps := ps) hcl I.ok.glob (I.mod.glob.keeps I.bk) hcode (TB.code.keeps I.bk) hP' ht hc TB.gP bP fun c' ctv h' tk hx hge hlt hrec htb => ?_
    obtain ⟨c2, oc, vs, t, e2, hoc, hd, hv⟩ := hrec
    cases e2
    have nC : H c' = none := I.hok.fresh hge
    have I1 := LamX.inv_table (t' := tk) (more := #[rawInt pos.line, rawInt pos.col, .ref c']) (h' := h') (q := X.env.qual ++ "<lambda>") I hP (fun b o hb e => hx b o hb e) htb hge ⟨oc, vs, t, hoc, hd, hv⟩
    have nC2 : upd H P (.tbl (ps ++ #[rawInt pos.line, rawInt pos.col, .ref c'])) c' = none := by rw [upd_ne (ne_of_none hP nC).symm]; exact nC
    have st : Step h μ H h μ (upd (upd H P (.tbl (ps ++ #[rawInt pos.line, rawInt pos.col, .ref c']))) c' (LamX.CodeO c' (X.env.qual ++ "<lambda>"))) := (Step.tbl hP).trans (.new nC2)
    have keep : ∀ b o, H b = some o → (∀ ps, o ≠ .tbl ps) → upd (upd H P (.tbl (ps ++ #[rawInt pos.line, rawInt pos.col, .ref c']))) c' (LamX.CodeO c' (X.env.qual ++ "<lambda>")) b = some o := fun b o e nt => by
      rw [upd_ne (ne_of_none e nC), upd_ne fun z => nt ps (Option.some.inj (e.symm.trans (by rw [z]; exact hP)))]; exact e
    refine last c' _ ctv h' tk _ I1 st (R.of_step st.toStepL (fun l ds e => ?_) fun p hp => ?_) upd_same tk
    · obtain ⟨vs, e1, _⟩ := R.obj l ds e
      rw [e1]
      exact keep _ _ e1 fun _ z => by cases z
    · have eL : (ps ++ #[rawInt pos.line, rawInt pos.col, .ref c']).toList = ps.toList ++ [rawInt pos.line, rawInt pos.col, .ref c'] := by simp
      by_cases hb : p.1 = P
      · rw [hu p hp hb, hb]
        refine ⟨_, by rw [upd_ne (ne_of_none hP nC), upd_same], by rw [eL]; exact PySem.TriplesOk_snoc _ _ _ _ ht, fun p' cv hcv => ?_⟩
        rw [eL] at hcv
        rcases LamX.among_app _ ht hcv with z | z
        · obtain ⟨c0, e1, e2⟩ := ha p' cv z
          exact ⟨c0, e1, keep _ _ e2 (LamX.codeO_ne)⟩
        · exact ⟨c', z, upd_same⟩
      · obtain ⟨ps', a1, a2, a3⟩ := R.tab p hp
        refine ⟨ps', by rw [upd_ne (ne_of_none a1 nC), upd_ne hb]; exact a1, a2, fun p' cv hcv => ?_⟩
        obtain ⟨c0, e1, e2⟩ := a3 p' cv hcv
        exact ⟨c0, e1, keep _ _ e2 (LamX.codeO_ne)⟩
/-- the parameters of lambda x: .. -/
abbrev oneP (x : Str) (p : Pos) : Arguments := ⟨[], [⟨x, none, p⟩], none, [], [], none, []⟩
theorem bind1 (q : Str) (x : Str) (xp : Pos) (body : Expr) (scope : Scope) (pm cv ctv u : Value) : bindArgs (PySem.W.kla_fn "<lambda>" q (oneP x xp) body scope [] pm cv ctv) ⟨[u], []⟩ = pure [(x, u)] := by
  have hx : (x == x) = true := beq_self_eq_true x
  have e : List.lookup x [(x, u)] = some u := by simp [List.lookup, hx]
  have hs : seqItems? (Value.none) = pure none := rfl
  unfold bindArgs
  simp only [PySem.W.kla_fn, oneP, List.map_nil, List.map_cons, List.nil_append, List.zip_cons_cons, List.zip_nil_right, List.length_cons, List.length_nil, List.forIn_nil, e, hs, pure_bind, Option.getD_none, List.drop_nil, Nat.sub_zero, Nat.zero_add, Nat.add_zero, List.take_succ_cons, List.take_zero, List.filter_cons, List.filter_nil, Option.isNone_some, List.isEmpty_nil, Bool.not_true, Bool.false_eq_true, if_false, List.drop_succ_cons, List.append_nil, List.filterMap_cons, List.filterMap_nil, Option.map_some, Array.toList_empty, List.drop_zero]
  rfl
/-- the lambda's body as a context -/
abbrev lamX (X : Cx) (x : Str) (scope : Scope) (f c' : Addr) (A : Around) (s : Shared) (H : Hp) : Cx := (cxOf CXN X.prog X.w X.K X.mg X.base [x] (X.env.qual ++ "<lambda>") scope f (.ref c') A X.stack s H E0N).nox
theorem key_lam {TT : List Fn} {n : Nat} {f c' : Addr} {pm ctv : Value} {x : Str} {xp : Pos} {body : Expr} {scope : Scope} {b : Ex} (S : FnScope [x] [x] scope) (hr : RB n X.A)
    (hbody : ∀ (s : Shared) (H : Hp), RBl n (X.A.in1.in1.deeper (envOfC (X.env.qual ++ "<lambda>") scope s.heap.objs.size f (.ref c'))) → PE (lamX X x scope f c' X.A.in1.in1 s H) body (tD X.K X.w T EF (callN TT n) b)) (σ : L2.St) :
    KeyTurn X T (PPl f c' (PySem.W.kla_obj "<lambda>" (X.env.qual ++ "<lambda>") (oneP x xp) body scope [] pm c' ctv) (X.env.qual ++ "<lambda>")) σ (.ref f) (fun d => den (callN TT n) b [some (.dat d)]) := by
  intro pins s H h h2 μ v u d y hPP I R ru rv run
  obtain ⟨hf, hc⟩ := hPP
  obtain ⟨of, _, _⟩ := I.hok f _ hf
  obtain ⟨⟨oc, vs, t, hoc, hdc, hvc⟩, _, _⟩ := I.hok c' _ hc
  have e0 := I.env0.in1.in1
  have hkind : ∀ y ∈ [(x, u)], scope.names.lookup y.1 = some .local ∨ (scope.names.lookup y.1 = some .cell ∧ ((cellsFrom (s.heap.objs.size + 1) scope.names []).lookup y.1).isSome = true) := fun y hy => by
    rw [List.mem_singleton.mp hy]
    rcases S.par x (List.mem_singleton.mpr rfl) with q | q
    · exact .inl q
    · exact .inr ⟨q, PySem.W.cellsFrom_some _ _ _ (.inl q)⟩
  have main : codeAny (model X.prog X.w) X.A.in1.in1 (.call (.ref f) ⟨[u], []⟩) (CR CXN X.stack X.prog X.w H s (fun v2 H2 => ∃ μ2, Step h μ H h2 μ2 H2 ∧ HRel X.K X.w T H2 h2 μ2 ∧ Rp X.K (Lv h2 μ2) H2 v2 y) E0N) s := by
    refine PySem.W.kla_callFunE (by have := hr.dp; show X.A.depth < _; omega) of rfl S.co S.gen rfl ⟨c', oc, vs, t, rfl, hoc, hdc, hvc⟩ ?_
    have eb : bindArgs (PySem.W.kla_fn "<lambda>" (X.env.qual ++ "<lambda>") (oneP x xp) body scope [] pm (.ref c') ctv) ⟨[u], []⟩ = pure [(x, u)] := bind1 ..
    rw [eb]
    refine wpAny_pure (wpAny_newFunctionEnv_cells S.kind hkind fun env he s1 xx => ?_)
    subst he
    refine ⟨I.nolimit.keeps xx.toInCall.keep, PySem.W.kla_codeExpr ?_⟩
    have J : Inv (cxOf CXN X.prog X.w X.K X.mg X.base [x] (X.env.qual ++ "<lambda>") scope f (.ref c') X.A.in1.in1 X.stack s H E0N) [] (L2.start [x] [v]) H s1 := inv_start S hr.hd e0 rfl (.cons ru .nil) xx
    refine wpAny_mono ((PE.nox (hbody s H (hr.lam _))).run [] s1 (L2.start [x] [v]) H (fun v2 H2 => ∃ μ2, Step h μ H h2 μ2 H2 ∧ HRel X.K X.w T H2 h2 μ2 ∧ Rp X.K (Lv h2 μ2) H2 v2 y) J ⟨[some (.dat d)], h, μ, start_env (N := [x]) (ps := [x]) (vs := [v]) (ds := [.dat d]) (.cons (.dat rv) .nil) rfl, R, Go.ok run fun μ' H' s' R' v' rv' => ?_⟩) (fun w s2 hw => ?_) fun e s' hs => hs
    · cases rv' with | dat rv' => exact ⟨μ', s', R', rv'⟩
    · obtain ⟨v2, H', J', rw', q⟩ := hw
      exact ⟨v2, H', J'.os, J'.bare, J'.base, J'.hok, rw', q⟩
  refine wpAny_call (codeAny_mono main fun r s2 hq => ?_)
  cases r with
  | error e => exact (show False from hq).elim
  | ok fl =>
    cases fl with
    | ret u2 =>
      obtain ⟨v2, H2, I2, r2, μ2, st, R2, ry⟩ := I.after hq
      exact ⟨v2, H2, μ2, ⟨st.keepX R hf, st.keepX R hc⟩, I2, st, R2, r2, ry⟩
    | next => exact False.elim hq
    | brk => exact False.elim hq
    | cont => exact False.elim hq
end
end DL
end
section
set_option Elab.async false
set_option linter.all false
set_option autoImplicit false
set_option maxRecDepth 100000
/-! The data layer, part md: sorted(xs, key=lambda x: ..). -/
namespace DL
open PySem PySem.Spec PyProof.Rows L2
section
variable {X : Cx} {T : List (Addr × Str)} {pos p : Pos} {e : Expr} {TT : List Fn} {n : Nat}
def rSrtk (X : Cx) (T : List (Addr × Str)) (kM : PyData → M D) : List V → List V → Hp → VK → Prop := fun vs zs H Q => ∃ (fa : Addr) (PP : Hp → Prop), (∀ σ, KeyTurn X T PP σ (.ref fa) kM) ∧ rSrtf X.K X.w T PP (.ref fa) kM vs zs H Q
theorem bi_srtk {kM : PyData → M D} (hu : X.A.units + 66 < cLine) (hc : X.calm = true) : CallRK X (.builtin "sorted") [Str.ofString "key"] (rSrtk X T kM) := by
  intro pins s σ H vs zs us ws Q I r rz ⟨fa, PP, turn, hq⟩
  exact bi_srtf hu hc turn pins s σ H vs zs us ws Q I r rz hq
/-- a new function object of a lambda -/
def tLamN (X : Cx) (T : List (Addr × Str)) (x : Str) (xp : Pos) (body : Expr) (scope : Scope) : TE := fun σ H Q => ∃ h μ, HRel X.K X.w T H h μ ∧ ∀ (f c' : Addr) (pm ctv : Value) (H' : Hp), Step h μ H h μ H' → HRel X.K X.w T H' h μ →
  PPl f c' (PySem.W.kla_obj "<lambda>" (X.env.qual ++ "<lambda>") (oneP x xp) body scope [] pm c' ctv) (X.env.qual ++ "<lambda>") H' → Q (.ref f) H'
theorem pe_lamN {x : Str} {xp lp : Pos} {body : Expr} {scope : Scope} (L : LamAt X T) (S : FnScope [x] [x] scope) : PE X (.Lambda (oneP x xp) body scope lp) (tLamN X T x xp body scope) := by
  refine ⟨fun pins s σ H Q I hq => ?_⟩
  obtain ⟨h, μ, R, f⟩ := hq
  exact lam_new I R L rfl S.nofree fun fa c' pm ctv H1 s' I1 st R1 hp => ⟨.ref fa, H1, I1, rfl, f fa c' pm ctv H1 st R1 hp⟩
theorem pd_srtl {x : Str} {xp lp kp : Pos} {body : Expr} {scope : Scope} {y b : Ex} (hr : RB n X.A) (hc : X.calm = true) (L : LamAt X T) (S : FnScope [x] [x] scope) (hg : Gl X "sorted") (hm : X.mg "sorted" = none) (he : PDE X T EF (callN TT n) e y) (hn : ∀ u v, e ≠ .Starred u v)
    (hbody : ∀ (f c' : Addr) (s : Shared) (H : Hp), RBl n (X.A.in1.in1.deeper (envOfC (X.env.qual ++ "<lambda>") scope s.heap.objs.size f (.ref c'))) → PE (lamX X x scope f c' X.A.in1.in1 s H) body (tD X.K X.w T EF (callN TT n) b)) :
    PDE X T EF (callN TT n) (.Call (.Name "sorted" p) [e] [⟨some "key", .Lambda (oneP x xp) body scope lp, kp⟩] pos) (.srtl y b) := by
  have hu := hr.l.u
  refine (pe_callBK (bi_srtk (T := T) (kM := fun d => den (callN TT n) b [some (.dat d)]) (by omega) hc) hg hm (by decide +kernel) (pda_cons (T := T) (E := EF) (C := callN TT n) he pda_nil hn) (pk_cons (pe_lamN L S) pk_nil) (by decide) (by decide) (by rw [starEach_ne hn]; rfl) (by rw [starEach_ne hn]; rfl)).imp fun σ H Q ⟨ρ, h, μ, en, R, g⟩ => ⟨ρ, h, μ, en, R, ?_⟩
  refine (Go.one (Go.bind g)).mono fun ds h1 μ1 H1 s1 R1 ⟨d, e, g1⟩ vs rs => ?_
  subst e
  obtain ⟨v, rfl, rv⟩ := one_rep rs
  refine ⟨h1, μ1, R1, fun f c' pm ctv H2 s2 R2 hp => ⟨f, _, key_lam S hr fun s H => hbody f c' s H, h1, μ1, d, ⟨v, rfl, rv.step s2⟩, rfl, hp, R2, ?_⟩⟩
  obtain ⟨a, h', e1, f⟩ := Go.inv g1
  exact Go.ok e1 fun μ' H' s R' => f μ' H' (s2.trans s) R'
end
end DL
end
section
set_option Elab.async false
set_option linter.all false
set_option autoImplicit false
set_option maxRecDepth 100000
/-! The data layer, part me: the translation keeps the meaning: contexts, names. -/
namespace DL
open PySem PySem.Spec PyProof.Rows L2
def bltNames : List Str := ["len", "abs", "int", "tuple", "list", "all", "any", "set", "dict", "repr", "sum", "sorted", "isinstance", "str", "bool", "range", "zip"]
/-- the translation's context is X's -/
structure Fits (TT : List Fn) (T : List (Addr × Str)) (n : Nat) (cc : CC) (X : Cx) : Prop where
  N : X.N = cc.N
  nd : cc.N.Nodup
  sc : X.env.scope = cc.sc
  fn : ∀ x, cc.fn x = true → X.fn x = true
  calm : X.calm = true
  room : RBl n X.A
  lam : cc.lam = true → RB n X.A ∧ LamAt X T
  xe : X.xe = fun _ _ => False
  blt : ∀ x ∈ bltNames, X.mg x = none
  cons : ∀ x d, cc.cons.lookup x = some d → ∃ v u, X.mg x = some u ∧ RelV v u ∧ ∀ L H, Rp X.K L H v d
  fns : ∀ x i, cc.fns.lookup x = some i → ∃ f fd ps, X.mg x = some (.ref f) ∧ PySem.W.keepIn X.K (.ref f) = true ∧ Binds X.K fd ps [] ∧ FnG X.prog X.w X.K X.mg X.base n f fd ps (spD X.K X.w T TT ps n i) ∧ ∀ ds h, ds.length ≠ ps.length → callN TT n i ds h = .no
section
variable {TT : List Fn} {T : List (Addr × Str)} {n : Nat} {cc : CC} {X : Cx}
theorem Fits.blk (F : Fits TT T n cc X) (s : Shared) (H : Hp) (scope : Scope) (cl : List (Str × Addr)) (Ca : Addr) (fp : List Addr) : Fits TT T n (inBlk cc scope) (X.blk s H scope (compEnvC scope cl Ca X.env) fp) where
  N := F.N
  nd := F.nd
  sc := by
    show relS scope X.env.scope = relS scope cc.sc
    rw [F.sc]
  fn := fun x h => h
  calm := F.calm
  room := F.room
  lam := fun h => by cases h
  xe := rfl
  blt := F.blt
  cons := F.cons
  fns := F.fns
theorem Fits.lamb (F : Fits TT T n cc X) {x : Str} {scope : Scope} {f c' : Addr} {A : Around} {s : Shared} {H : Hp} (r : RBl n (A.deeper (envOfC (X.env.qual ++ "<lambda>") scope s.heap.objs.size f (.ref c')))) : Fits TT T n (inLam cc x scope) (lamX X x scope f c' A s H) where
  N := rfl
  nd := by show [x].Nodup; simp
  sc := rfl
  fn := fun x h => rfl
  calm := rfl
  room := r
  lam := fun h => by cases h
  xe := rfl
  blt := F.blt
  cons := F.cons
  fns := F.fns
theorem slot_at {N : List Str} {x : Str} {i : Nat} (h : slotOf N x = some i) : N[i]? = some x := by
  unfold slotOf at h
  split at h
  · split at h
    · rename_i q; cases h; exact q
    · cases h
  · cases h
theorem vis_of {sc : Scope} {x : Str} (h : visB sc x = true) : Vis sc x := by
  unfold visB at h
  split at h
  · exact .inl ‹_›
  · exact .inr (.inl ‹_›)
  · exact .inr (.inr ‹_›)
  · cases h
theorem loc_of {sc : Scope} {x : Str} (h : locB sc x = true) : Loc sc x := by
  unfold locB at h
  split at h
  · exact .inl ‹_›
  · exact .inr ‹_›
  · cases h
theorem isLoc_of {sc : Scope} {x : Str} (h : isLoc sc x = true) : sc.names.lookup x = some .local := by
  unfold isLoc at h
  split at h
  · assumption
  · cases h
theorem Fits.gl (F : Fits TT T n cc X) {x : Str} (h : glB cc.sc x = true) : Gl X x := by
  unfold glB at h
  split at h
  · show X.env.scope.names.lookup x = _
    rw [F.sc]; assumption
  · cases h
theorem bad_of {x : Str} (h : badName x = false) : (x == ("__debug__" : Str)) = false ∧ (x == ("__classdict__" : Str)) = false := by
  unfold badName at h
  simp only [Bool.or_eq_false_iff] at h
  exact ⟨h.1.1, h.1.2⟩
theorem Fits.store (F : Fits TT T n cc X) {x : Str} (h : storeB cc x = true) : Loc X.env.scope x ∧ (X.fn x = true ∨ X.env.scope.names.lookup x = some .local) := by
  unfold storeB at h
  rw [Bool.and_eq_true, Bool.or_eq_true] at h
  rw [F.sc]
  exact ⟨loc_of h.1, h.2.imp (F.fn x) isLoc_of⟩
theorem Fits.slot (F : Fits TT T n cc X) {x : Str} {i : Nat} (h : slotOf cc.N x = some i) : X.N[i]? = some x := by rw [F.N]; exact slot_at h
theorem Fits.ndN (F : Fits TT T n cc X) : X.N.Nodup := by rw [F.N]; exact F.nd
/-- targets -/
theorem goT_ns (F : Fits TT T n cc X) : ∀ {es : List Expr} {is : List Nat}, tgOf.goT cc es = some is → TgNs X es is
  | [], is, h => by
    have h' : some [] = some is := h
    cases h'; exact .nil
  | e :: r, is, h => by
    cases e with
    | Name x p =>
      have h' : (if storeB cc x then (match slotOf cc.N x, tgOf.goT cc r with
        | some i, some is => some (i :: is)
        | _, _ => none) else none) = some is := h
      split at h'
      · rename_i st
        split at h'
        · rename_i i is' e1 e2
          cases h'
          exact .cons (F.slot e1) (F.store st).1 (F.store st).2 (goT_ns F e2)
        · cases h'
      · cases h'
    | _ => cases (show (none : Option (List Nat)) = some is from h)
theorem tg_ok (F : Fits TT T n cc X) {e : Expr} {t : Tg} (h : tgOf cc e = some t) : PG X e (gT X.K X.w T t) := by
  cases e with
  | Name x p =>
    have h' : (if storeB cc x then (slotOf cc.N x).map .name else none) = some t := h
    split at h'
    · rename_i st
      obtain ⟨i, e1, rfl⟩ := map_some h'
      exact pgd_name F.ndN (F.slot e1) (F.store st).1 (F.store st).2
    · cases h'
  | Tuple es k p =>
    obtain ⟨is, e1, rfl⟩ := map_some (show (tgOf.goT cc es).map .tup = some t from h)
    exact pgd_tup F.calm F.ndN (goT_ns F e1)
  | _ => cases (show (none : Option Tg) = some t from h)
/-- what is shown of an expression -/
structure SE (X : Cx) (T : List (Addr × Str)) (C : Nat → List D → M D) (e : Expr) (x : Ex) : Prop where
  pe : PDE X T EF C e x
  pt : PDT X T EF C e x
  pw : (∃ o vs p, e = .BoolOp o vs p) → PDW X T EF C e x
theorem SE.of {C : Nat → List D → M D} {e : Expr} {x : Ex} (h : PDE X T EF C e x) (he : ∀ whole, isTrue e X.env whole = (do let v ← whole; standAt e.pos; holding [v] (truthy v))) (hb : ∀ o vs p, e ≠ .BoolOp o vs p) : SE X T C e x := ⟨h, pdt_of h he, fun ⟨o, vs, p, z⟩ => absurd z (hb o vs p)⟩
theorem SE.test {C : Nat → List D → M D} {e : Expr} {x : Ex} (h : PDE X T EF C e x) (ht : PDT X T EF C e x) (hb : ∀ o vs p, e ≠ .BoolOp o vs p) : SE X T C e x := ⟨h, ht, fun ⟨o, vs, p, z⟩ => absurd z (hb o vs p)⟩
/-- no star among them -/
def NoStar (es : List Expr) : Prop := ∀ e ∈ es, ∀ u v, e ≠ .Starred u v
theorem NoStar.plain {env : Env} {pos : Pos} : ∀ {es : List Expr}, NoStar es → (backTo pos (starEach es env)).any (·.1) = false
  | [], _ => rfl
  | e :: r, h => by
    rw [starEach_ne (h e List.mem_cons_self)]
    show (false || (backTo pos (starEach r env)).any (·.1)) = false
    rw [NoStar.plain fun e he => h e (List.mem_cons_of_mem _ he)]; rfl
theorem cpE_star {m : Nat} {cc : CC} {e : Expr} {x : Ex} (h : cpE m cc e = some x) : ∀ u v, e ≠ .Starred u v := by
  intro u v z
  subst z
  cases m with
  | zero => cases h
  | succ m => cases (show (none : Option Ex) = some x from h)
theorem cpEs_star : ∀ {m : Nat} {cc : CC} {es : List Expr} {xs : Exs}, cpEs m cc es = some xs → NoStar es
  | 0, _, _, _, h => by cases h
  | m + 1, _, [], _, h => fun e he => by cases he
  | m + 1, cc, e :: r, xs, h => by
    have h' : (match cpE m cc e, cpEs m cc r with
      | some e, some r => some (Exs.cons e r)
      | _, _ => none) = some xs := h
    split at h'
    · rename_i x ys e1 e2
      intro e' he'
      rcases List.mem_cons.mp he' with rfl | q
      · exact cpE_star e1
      · exact cpEs_star e2 e' q
    · cases h'
theorem cpI_set {m : Nat} {cc : CC} {tg iter : Expr} {i : DL.It} (h : cpI m cc tg iter = some i) : ∀ env x, foldedSetIterable iter env x = pure x := by
  cases m with
  | zero => cases h
  | succ m =>
    cases iter <;> first | exact fun _ _ => rfl | cases (show (none : Option DL.It) = some i from h)
/-- all that is shown at a fuel -/
structure Snd (TT : List Fn) (T : List (Addr × Str)) (n m : Nat) : Prop where
  e : ∀ {cc : CC} {X : Cx} {e : Expr} {x : Ex}, Fits TT T n cc X → cpE m cc e = some x → SE X T (callN TT n) e x
  es : ∀ {cc : CC} {X : Cx} {es : List Expr} {xs : Exs}, Fits TT T n cc X → cpEs m cc es = some xs → PDA X T EF (callN TT n) es xs
  o : ∀ {cc : CC} {X : Cx} {e : Option Expr} {x : Ox}, Fits TT T n cc X → cpO m cc e = some x → PO X e (tO X.K X.w T EF (callN TT n) x)
  c : ∀ {cc cb : CC} {own : List Nat} {g : Comprehension} {c : Cl}, cpC m cc cb own g = some c → ∃ tg iter ifs t i cond, g = ⟨tg, iter, ifs, 0⟩ ∧ c = .mk own t i cond ∧ (∀ X : Cx, Fits TT T n cc X → PI X tg iter (iD X.K X.w T (callN TT n) i)) ∧ (∀ env x, foldedSetIterable iter env x = pure x) ∧
    (∀ Xb : Cx, Fits TT T n cb Xb → PG Xb tg (gT Xb.K Xb.w T t) ∧ PTs Xb ifs (tC Xb.K Xb.w T (callN TT n) cond)) ∧ ∀ j ∈ tgIds t, j ∈ own
  i : ∀ {cc : CC} {X : Cx} {tg iter : Expr} {i : DL.It}, Fits TT T n cc X → cpI m cc tg iter = some i → PI X tg iter (iD X.K X.w T (callN TT n) i)
end
end DL
end
section
set_option Elab.async false
set_option linter.all false
set_option autoImplicit false
set_option maxRecDepth 100000
/-! The data layer, part mf: the translation keeps the meaning: expressions. -/
namespace DL
open PySem PySem.Spec PyProof.Rows L2
section
variable {TT : List Fn} {T : List (Addr × Str)} {n m : Nat} {cc : CC} {X : Cx} {pos : Pos} {x : Ex}
theorem if_none {α : Type} {c : Bool} {o : Option α} {a : α} (h : (if c = true then none else o) = some a) : c = false ∧ o = some a := by
  cases c with
  | true => cases h
  | false => exact ⟨rfl, h⟩
theorem if_some {α : Type} {c : Bool} {o : Option α} {a : α} (h : (if c = true then o else none) = some a) : c = true ∧ o = some a := by
  cases c with
  | true => exact ⟨rfl, h⟩
  | false => cases h
theorem se_const {c : Const} {k : Nat} (h : cpE (m + 1) cc (.Constant c k pos) = some x) : SE X T (callN TT n) (.Constant c k pos) x := by
  obtain ⟨d, e, rfl⟩ := map_some (show (constE c).map Ex.c = some x from h)
  exact .of (pd_const e) (fun _ => rfl) fun _ _ _ z => by cases z
theorem se_name (F : Fits TT T n cc X) {y : Str} (h : cpE (m + 1) cc (.Name y pos) = some x) : SE X T (callN TT n) (.Name y pos) x := by
  have h' : (if badName y then none else if visB cc.sc y then (slotOf cc.N y).map (if cc.hf.contains (posAt pos) then .frz else .v) else if glB cc.sc y && (cc.fns.lookup y).isNone then (cc.cons.lookup y).map (.g y) else none) = some x := h
  obtain ⟨hb, h'⟩ := if_none h'
  obtain ⟨b1, b2⟩ := bad_of hb
  refine .of ?_ (fun _ => rfl) fun _ _ _ z => by cases z
  by_cases hv : visB cc.sc y = true
  · rw [if_pos hv] at h'
    obtain ⟨i, e, e2⟩ := map_some h'
    have vis : Vis X.env.scope y := by rw [F.sc]; exact vis_of hv
    by_cases hf : cc.hf.contains (posAt pos) = true
    · rw [if_pos hf] at e2
      subst e2
      exact pd_frz (F.slot e) vis b1 b2
    · rw [if_neg hf] at e2
      subst e2
      exact pd_var (F.slot e) vis b1 b2
  · rw [if_neg hv] at h'
    obtain ⟨hg, h'⟩ := if_some h'
    rw [Bool.and_eq_true] at hg
    obtain ⟨d, e, rfl⟩ := map_some h'
    obtain ⟨v, u, hm, r, hr⟩ := F.cons y d e
    exact pd_glob (F.gl hg.1) hm r hr b1
theorem se_tup (S : Snd TT T n m) (F : Fits TT T n cc X) {es : List Expr} {k : Nat} (h : cpE (m + 1) cc (.Tuple es k pos) = some x) : SE X T (callN TT n) (.Tuple es k pos) x := by
  obtain ⟨xs, e, rfl⟩ := map_some (show (cpEs m cc es).map .tup = some x from h)
  exact .of (pd_tup (S.es F e)) (fun _ => rfl) fun _ _ _ z => by cases z
theorem se_lst (S : Snd TT T n m) (F : Fits TT T n cc X) {es : List Expr} (h : cpE (m + 1) cc (.List es pos) = some x) : SE X T (callN TT n) (.List es pos) x := by
  obtain ⟨xs, e, e2⟩ := map_some (show (cpEs m cc es).map (if cc.hm.contains (posAt pos) then .new else .lst) = some x from h)
  refine .of ?_ (fun _ => rfl) fun _ _ _ z => by cases z
  by_cases hf : cc.hm.contains (posAt pos) = true
  · rw [if_pos hf] at e2
    subst e2
    exact pd_new (S.es F e)
  · rw [if_neg hf] at e2
    subst e2
    exact pd_lst (S.es F e)
theorem bop_of {o : Operator} {b : Bop} (h : bopOf o = some b) : o = opOf b := by
  cases o <;> first | (cases h; rfl) | cases h
theorem cop_of {o : CmpOp} {b : Cop} (h : copOf o = some b) : o = cmpOf b := by
  cases o <;> first | (cases h; rfl) | cases h
theorem se_bin (S : Snd TT T n m) (F : Fits TT T n cc X) {a b : Expr} {o : Operator} (h : cpE (m + 1) cc (.BinOp a o b pos) = some x) : SE X T (callN TT n) (.BinOp a o b pos) x := by
  obtain ⟨o', y, z, e1, e2, e3, rfl⟩ : ∃ a₀ b₀ c₀, (bopOf o) = some a₀ ∧ (cpE m cc a) = some b₀ ∧ (cpE m cc b) = some c₀ ∧ Ex.bin a₀ b₀ c₀ = x := by
    have h₂ : (match (bopOf o), (cpE m cc a), (cpE m cc b) with | some a, some b, some c => some (Ex.bin a b c) | _, _, _ => none) = some x := h
    split at h₂ <;> first | exact ⟨_, _, _, by assumption, by assumption, by assumption, Option.some.inj h₂⟩ | cases h₂
  obtain rfl := bop_of e1
  exact .of (pd_bin (S.e F e2).pe (S.e F e3).pe) (fun _ => rfl) fun _ _ _ z => by cases z
theorem se_un (S : Snd TT T n m) (F : Fits TT T n cc X) {a : Expr} {o : UnaryOp} (h : cpE (m + 1) cc (.UnaryOp o a pos) = some x) : SE X T (callN TT n) (.UnaryOp o a pos) x := by
  cases o with
  | USub =>
    obtain ⟨y, e, rfl⟩ := map_some (show (cpE m cc a).map .neg = some x from h)
    exact .of (pd_neg (S.e F e).pe) (fun _ => rfl) fun _ _ _ z => by cases z
  | Not =>
    obtain ⟨y, e, rfl⟩ := map_some (show (cpE m cc a).map .not = some x from h)
    exact .test (pd_not (S.e F e).pe) (pdt_not (S.e F e).pt) fun _ _ _ z => by cases z
  | _ => cases (show (none : Option Ex) = some x from h)
theorem se_cmp (S : Snd TT T n m) (F : Fits TT T n cc X) {a : Expr} {os : List CmpOp} {bs : List Expr} (h : cpE (m + 1) cc (.Compare a os bs pos) = some x) : SE X T (callN TT n) (.Compare a os bs pos) x := by
  have hu : X.A.units + 64 < cLine := by have := F.room.u; omega
  match os, bs, h with
  | [o], [b], h =>
    obtain ⟨hm, h'⟩ := if_none (show (if behindInMarks o b then none else match copOf o, cpE m cc a, cpE m cc b with
      | some o, some a, some b => some (Ex.cmp o a b)
      | _, _, _ => none) = some x from h)
    obtain ⟨o', y, z, e1, e2, e3, rfl⟩ : ∃ a₀ b₀ c₀, (copOf o) = some a₀ ∧ (cpE m cc a) = some b₀ ∧ (cpE m cc b) = some c₀ ∧ Ex.cmp a₀ b₀ c₀ = x := by
      have h₂ : (match (copOf o), (cpE m cc a), (cpE m cc b) with | some a, some b, some c => some (Ex.cmp a b c) | _, _, _ => none) = some x := h'
      split at h₂ <;> first | exact ⟨_, _, _, by assumption, by assumption, by assumption, Option.some.inj h₂⟩ | cases h₂
    obtain rfl := cop_of e1
    exact .test (pd_cmp hu (S.e F e2).pe (S.e F e3).pe hm) (pdt_cmp hu (S.e F e2).pe (S.e F e3).pe hm) fun _ _ _ z => by cases z
  | [o, o'], [b, c], h =>
    obtain ⟨hm, h'⟩ := if_none (show (if behindInMarks o b || behindInMarks o' c then none else match copOf o, copOf o', cpE m cc a, cpE m cc b, cpE m cc c with
      | some o, some o', some a, some b, some c => some (Ex.cmp2 o o' a b c)
      | _, _, _, _, _ => none) = some x from h)
    rw [Bool.or_eq_false_iff] at hm
    obtain ⟨p1, p2, y, z, w', e1, e2, e3, e4, e5, rfl⟩ : ∃ p1 p2 y z w', copOf o = some p1 ∧ copOf o' = some p2 ∧ cpE m cc a = some y ∧ cpE m cc b = some z ∧ cpE m cc c = some w' ∧ Ex.cmp2 p1 p2 y z w' = x := by
      split at h' <;> first | exact ⟨_, _, _, _, _, by assumption, by assumption, by assumption, by assumption, by assumption, Option.some.inj h'⟩ | cases h'
    obtain rfl := cop_of e1
    obtain rfl := cop_of e2
    exact .test (pd_cmp2 hu (S.e F e3).pe (S.e F e4).pe (S.e F e5).pe hm.2) (pdt_cmp2 hu (S.e F e3).pe (S.e F e4).pe (S.e F e5).pe hm.2) fun _ _ _ z => by cases z
  | [], _, h => cases (show (none : Option Ex) = some x from h)
  | [_], [], h => cases (show (none : Option Ex) = some x from h)
  | [_], _ :: _ :: _, h => cases (show (none : Option Ex) = some x from h)
  | [_, _], [], h => cases (show (none : Option Ex) = some x from h)
  | [_, _], [_], h => cases (show (none : Option Ex) = some x from h)
  | [_, _], _ :: _ :: _ :: _, h => cases (show (none : Option Ex) = some x from h)
  | _ :: _ :: _ :: _, _, h => cases (show (none : Option Ex) = some x from h)
theorem pe_bool1 {C : Nat → List D → M D} {a : Expr} {o : BoolOp} (ha : PDE X T EF C a x) : PDE X T EF C (.BoolOp o [a] pos) x := ⟨fun pins s σ H Q I h => ha.run pins s σ H Q I h⟩
theorem se_bool (S : Snd TT T n m) (F : Fits TT T n cc X) {vs : List Expr} {o : BoolOp} (h : cpE (m + 1) cc (.BoolOp o vs pos) = some x) : SE X T (callN TT n) (.BoolOp o vs pos) x := by
  match o, vs, h with
  | .And, [a], h =>
    have s := S.e F (show cpE m cc a = some x from h)
    have w := pw_and1 (pos := pos) s.pt
    exact ⟨pe_bool1 s.pe, w.pt, fun _ => w⟩
  | .Or, [a], h =>
    have s := S.e F (show cpE m cc a = some x from h)
    have w := pw_or1 (pos := pos) s.pt
    exact ⟨pe_bool1 s.pe, w.pt, fun _ => w⟩
  | .And, a :: b :: r, h =>
    obtain ⟨y, z, e1, e2, rfl⟩ : ∃ a₀ b₀, (cpE m cc a) = some a₀ ∧ (cpE m cc (.BoolOp .And (b :: r) pos)) = some b₀ ∧ Ex.and a₀ b₀ = x := by
      have h₂ : (match (cpE m cc a), (cpE m cc (.BoolOp .And (b :: r) pos)) with | some a, some b => some (Ex.and a b) | _, _ => none) = some x := h
      split at h₂ <;> first | exact ⟨_, _, by assumption, by assumption, Option.some.inj h₂⟩ | cases h₂
    have s1 := S.e F e1
    have s2 := S.e F e2
    have w := pdw_and s1.pt (s2.pw ⟨_, _, _, rfl⟩)
    exact ⟨pd_and s1.pe s2.pe, w.pt, fun _ => w⟩
  | .Or, a :: b :: r, h =>
    obtain ⟨y, z, e1, e2, rfl⟩ : ∃ a₀ b₀, (cpE m cc a) = some a₀ ∧ (cpE m cc (.BoolOp .Or (b :: r) pos)) = some b₀ ∧ Ex.or a₀ b₀ = x := by
      have h₂ : (match (cpE m cc a), (cpE m cc (.BoolOp .Or (b :: r) pos)) with | some a, some b => some (Ex.or a b) | _, _ => none) = some x := h
      split at h₂ <;> first | exact ⟨_, _, by assumption, by assumption, Option.some.inj h₂⟩ | cases h₂
    have s1 := S.e F e1
    have s2 := S.e F e2
    have w := pdw_or s1.pt (s2.pw ⟨_, _, _, rfl⟩)
    exact ⟨pd_or s1.pe s2.pe, w.pt, fun _ => w⟩
  | .And, [], h => cases (show (none : Option Ex) = some x from h)
  | .Or, [], h => cases (show (none : Option Ex) = some x from h)
theorem se_ite (S : Snd TT T n m) (F : Fits TT T n cc X) {c a b : Expr} (h : cpE (m + 1) cc (.IfExp c a b pos) = some x) : SE X T (callN TT n) (.IfExp c a b pos) x := by
  obtain ⟨o', y, z, e1, e2, e3, rfl⟩ : ∃ a₀ b₀ c₀, (cpE m cc c) = some a₀ ∧ (cpE m cc a) = some b₀ ∧ (cpE m cc b) = some c₀ ∧ Ex.ite a₀ b₀ c₀ = x := by
    have h₂ : (match (cpE m cc c), (cpE m cc a), (cpE m cc b) with | some a, some b, some c => some (Ex.ite a b c) | _, _, _ => none) = some x := h
    split at h₂ <;> first | exact ⟨_, _, _, by assumption, by assumption, by assumption, Option.some.inj h₂⟩ | cases h₂
  have s1 := S.e F e1
  have s2 := S.e F e2
  have s3 := S.e F e3
  exact .test (pd_ite s1.pt s2.pe s3.pe) (pdt_ite s1.pt s2.pt s3.pt) fun _ _ _ z => by cases z
theorem se_sub (S : Snd TT T n m) (F : Fits TT T n cc X) {a b : Expr} (h : cpE (m + 1) cc (.Subscript a b pos) = some x) : SE X T (callN TT n) (.Subscript a b pos) x := by
  refine .of ?_ (fun _ => rfl) fun _ _ _ z => by cases z
  by_cases hs : ∃ lo hi st p, b = .Slice lo hi st p
  · obtain ⟨lo, hi, st, p, rfl⟩ := hs
    cases st with
    | some z => 
      obtain ⟨y, z', e2, e3, rfl⟩ : ∃ a₀ b₀, (cpE m cc a) = some a₀ ∧ (cpE m cc (.Slice lo hi (some z) p)) = some b₀ ∧ Ex.ix a₀ b₀ = x := by
        have h₂ : (match (cpE m cc a), (cpE m cc (.Slice lo hi (some z) p)) with | some a, some b => some (Ex.ix a b) | _, _ => none) = some x := h
        split at h₂ <;> first | exact ⟨_, _, by assumption, by assumption, Option.some.inj h₂⟩ | cases h₂
      cases m with
      | zero => cases e3
      | succ m => cases (show (none : Option Ex) = some z' from e3)
    | none =>
      obtain ⟨y, l, u, e1, e2, e3, rfl⟩ : ∃ a₀ b₀ c₀, (cpE m cc a) = some a₀ ∧ (cpO m cc lo) = some b₀ ∧ (cpO m cc hi) = some c₀ ∧ Ex.sl a₀ b₀ c₀ = x := by
        have h₂ : (match (cpE m cc a), (cpO m cc lo), (cpO m cc hi) with | some a, some b, some c => some (Ex.sl a b c) | _, _, _ => none) = some x := h
        split at h₂ <;> first | exact ⟨_, _, _, by assumption, by assumption, by assumption, Option.some.inj h₂⟩ | cases h₂
      exact pd_sl (S.e F e1).pe (S.o F e2) (S.o F e3)
  · have h' : (match cpE m cc a, cpE m cc b with
        | some a, some b => some (Ex.ix a b)
        | _, _ => none) = some x := by
      cases b <;> first | exact h | exact absurd ⟨_, _, _, _, rfl⟩ hs
    obtain ⟨y, z, e2, e3, rfl⟩ : ∃ a₀ b₀, (cpE m cc a) = some a₀ ∧ (cpE m cc b) = some b₀ ∧ Ex.ix a₀ b₀ = x := by
      have h₂ : (match (cpE m cc a), (cpE m cc b) with | some a, some b => some (Ex.ix a b) | _, _ => none) = some x := h'
      split at h₂ <;> first | exact ⟨_, _, by assumption, by assumption, Option.some.inj h₂⟩ | cases h₂
    refine pd_ix (S.e F e2).pe (S.e F e3).pe fun o i => ?_
    cases b <;> first | rfl | exact absurd ⟨_, _, _, _, rfl⟩ hs
end
end DL
end
section
set_option Elab.async false
set_option linter.all false
set_option autoImplicit false
set_option maxRecDepth 100000
/-! The data layer, part mg: the translation keeps the meaning: calls. -/
namespace DL
open PySem PySem.Spec PyProof.Rows L2
section
variable {TT : List Fn} {T : List (Addr × Str)} {n m : Nat} {cc : CC} {X : Cx} {pos fp : Pos} {x : Ex} {f : Str}
theorem sb {a b : Str} (h : (a == b) = true) : a = b := eq_of_beq h
theorem cpEs_cons {e : Expr} {r : List Expr} {xs : Exs} (h : cpEs (m + 1) cc (e :: r) = some xs) : ∃ x ys, cpE m cc e = some x ∧ cpEs m cc r = some ys ∧ xs = .cons x ys := by
  have h₂ : (match cpE m cc e, cpEs m cc r with
      | some e, some r => some (Exs.cons e r)
      | _, _ => none) = some xs := h
  split at h₂ <;> first | exact ⟨_, _, by assumption, by assumption, (Option.some.inj h₂).symm⟩ | cases h₂
theorem bi_call (S : Snd TT T n m) (F : Fits TT T n cc X) {e : Expr} {es : List Expr} {b : Bi} {xs : Exs} (hf : f = biName b) (hg : glB cc.sc f = true) (h : cpEs m cc (e :: es) = some xs) : SE X T (callN TT n) (.Call (.Name f fp) (e :: es) [] pos) (.bi b xs) := by
  have ns := cpEs_star h
  subst hf
  refine .of (pd_bi (by have := F.room.u; omega) F.calm F.room.gd (F.gl hg) (F.blt _ (by cases b <;> decide)) (S.es F h) (ns e List.mem_cons_self) (NoStar.plain fun e he => ns e (List.mem_cons_of_mem _ he))) (fun _ => rfl) fun _ _ _ z => by cases z
theorem bi1_name {b : Bi} (h : bi1.lookup f = some b) : f = biName b := by
  have := PySem.mem_of_lookup h
  unfold bi1 at this
  simp only [List.mem_cons, List.not_mem_nil, or_false, Prod.mk.injEq] at this
  rcases this with ⟨rfl, rfl⟩ | ⟨rfl, rfl⟩ | ⟨rfl, rfl⟩ | ⟨rfl, rfl⟩ | ⟨rfl, rfl⟩ | ⟨rfl, rfl⟩ | ⟨rfl, rfl⟩ | ⟨rfl, rfl⟩ | ⟨rfl, rfl⟩ | ⟨rfl, rfl⟩ <;> rfl
theorem ty_name {t : Str} {y : Ty} (h : tyOf.lookup t = some y) : t = Str.ofString (tyName y) := by
  have := PySem.mem_of_lookup h
  unfold tyOf at this
  simp only [List.mem_cons, List.not_mem_nil, or_false, Prod.mk.injEq] at this
  rcases this with ⟨rfl, rfl⟩ | ⟨rfl, rfl⟩ | ⟨rfl, rfl⟩ | ⟨rfl, rfl⟩ | ⟨rfl, rfl⟩ <;> rfl
theorem lam_scope {y : Str} {scope : Scope} (h : lamB y scope = true) : FnScope [y] [y] scope := by
  unfold lamB at h
  simp only [Bool.and_eq_true, Bool.not_eq_true', decide_eq_true_eq, decide_eq_false_iff_not, List.all_eq_true] at h
  obtain ⟨⟨⟨⟨h1, h2⟩, h3⟩, h4⟩, h5⟩ := h
  exact ⟨h1, h2, h3, by simp, rfl, fun z hz => by rw [List.mem_singleton.mp hz]; exact .inl (isLoc_of h4), fun y hy => h5 y hy⟩
theorem se_call (S : Snd TT T n m) (F : Fits TT T n cc X) {args : List Expr} {kws : List Keyword} (h : cpE (m + 1) cc (.Call (.Name f fp) args kws pos) = some x) : SE X T (callN TT n) (.Call (.Name f fp) args kws pos) x := by
  have h1 : (if badName f || !glB cc.sc f then none else match cc.fns.lookup f with
      | some i => (match args, kws with
        | _ :: _, [] => (cpEs m cc args).map (.call i)
        | _, _ => none)
      | none => if (cc.cons.lookup f).isSome then none else match args, kws with
        | [a], [] => if f == ("sorted" : Str) then (cpE m cc a).map .srt else (match bi1.lookup f with
          | some b => (cpEs m cc [a]).map (.bi b)
          | none => none)
        | [a, b], [] => if f == ("sum" : Str) then (cpEs m cc [a, b]).map (.bi .sum2) else if f == ("isinstance" : Str) then (match b with
            | .Name t _ => if bltB cc t && !badName t then (match tyOf.lookup t, cpE m cc a with
              | some t, some a => some (.isi a t)
              | _, _ => none) else none
            | _ => none) else none
        | [a], [⟨some k, .Name g _, _⟩] => if f == ("sorted" : Str) && k == ("key" : Str) && !badName g && glB cc.sc g then (match cc.fns.lookup g, cpE m cc a with
            | some i, some a => some (.srtf a i)
            | _, _ => none) else none
        | [a], [⟨some k, .Lambda ⟨[], [⟨x, none, _⟩], none, [], [], none, []⟩ b scope _, _⟩] => if f == ("sorted" : Str) && k == ("key" : Str) && cc.lam && lamB x scope then (match cpE m (inLam cc x scope) b, cpE m cc a with
            | some b, some a => some (.srtl a b)
            | _, _ => none) else none
        | _, _ => none) = some x := h
  clear h
  obtain ⟨hb0, h2⟩ := if_none h1
  clear h1
  rw [Bool.or_eq_false_iff, Bool.not_eq_false'] at hb0
  obtain ⟨hb, hg⟩ := hb0
  obtain ⟨b1, b1'⟩ := bad_of hb
  clear b1'
  cases ef : cc.fns.lookup f with
  | some i =>
    rw [ef] at h2
    obtain ⟨fa, fd, ps, hm, hk, hbd, G, hl⟩ := F.fns f i ef
    have h1 : (match (generalizing := false) args, kws with
        | _ :: _, [] => (cpEs m cc args).map (.call i)
        | _, _ => none) = some x := h2
    clear h2
    split at h1
    · obtain ⟨xs, e1, rfl⟩ := map_some h1
      have ns := cpEs_star e1
      exact .of (pd_call G hl F.room (F.gl hg) hm hk hbd (S.es F e1) b1 (ns _ List.mem_cons_self) (NoStar.plain fun e he => ns e (List.mem_cons_of_mem _ he))) (fun _ => rfl) fun _ _ _ z => by cases z
    · cases h1
  | none =>
    rw [ef] at h2
    obtain ⟨hcons, h1⟩ := if_none h2
    clear h2 hcons
    split at h1
    · rename_i a
      by_cases hs : (f == ("sorted" : Str)) = true
      · rw [if_pos hs] at h1
        obtain ⟨y, e1, rfl⟩ := map_some h1
        obtain rfl := sb hs
        exact .of (pd_srt (by have := F.room.u; omega) F.calm (F.gl hg) (F.blt _ (by decide)) (S.e F e1).pe (cpE_star e1)) (fun _ => rfl) fun _ _ _ z => by cases z
      · rw [if_neg hs] at h1
        split at h1
        · rename_i b e0
          obtain ⟨xs, e1, rfl⟩ := map_some h1
          exact bi_call S F (bi1_name e0) hg e1
        · cases h1
    · rename_i a b
      by_cases hs : (f == ("sum" : Str)) = true
      · rw [if_pos hs] at h1
        obtain ⟨xs, e1, rfl⟩ := map_some h1
        exact bi_call (b := .sum2) S F (sb hs) hg e1
      · rw [if_neg hs] at h1
        obtain ⟨hi, h3⟩ := if_some h1
        clear h1
        split at h3
        · rename_i t tp
          obtain ⟨ht, h4⟩ := if_some h3
          clear h3
          obtain rfl := sb hi
          clear hi
          rw [Bool.and_eq_true] at ht
          have htg : glB cc.sc t = true := by
            have := ht.1
            unfold bltB at this
            rw [Bool.and_eq_true, Bool.and_eq_true] at this
            exact this.1.1
          obtain ⟨ty, y, e1, e2, rfl⟩ : ∃ ty y, tyOf.lookup t = some ty ∧ cpE m cc a = some y ∧ Ex.isi y ty = x := by
            split at h4 <;> first | exact ⟨_, _, by assumption, by assumption, Option.some.inj h4⟩ | cases h4
          obtain rfl := ty_name e1
          exact .of (pd_isi (F.gl hg) (F.blt _ (by decide)) (F.gl htg) (F.blt _ (by cases ty <;> decide)) (S.e F e2).pe (cpE_star e2)) (fun _ => rfl) fun _ _ _ z => by cases z
        · cases h3
    · rename_i a k g gp kp
      obtain ⟨hs, h3⟩ := if_some h1
      clear h1
      simp only [Bool.and_eq_true, Bool.not_eq_true'] at hs
      obtain ⟨⟨⟨hs, hk⟩, hbg⟩, hgg⟩ := hs
      obtain rfl := sb hs
      obtain rfl := sb hk
      obtain ⟨i, y, e1, e2, rfl⟩ : ∃ i y, cc.fns.lookup g = some i ∧ cpE m cc a = some y ∧ Ex.srtf y i = x := by
        split at h3 <;> first | exact ⟨_, _, by assumption, by assumption, Option.some.inj h3⟩ | cases h3
      obtain ⟨fa, fd, ps, hm, hk, hbd, G, hl⟩ := F.fns g i e1
      exact .of (pd_srtf G hl F.room F.calm hbd (F.gl hg) (F.blt _ (by decide)) (F.gl hgg) hm (bad_of hbg).1 (S.e F e2).pe (cpE_star e2)) (fun _ => rfl) fun _ _ _ z => by cases z
    · rename_i a k y yp b scope lp kp
      obtain ⟨hs, h3⟩ := if_some h1
      clear h1
      simp only [Bool.and_eq_true] at hs
      obtain ⟨⟨⟨hs, hk⟩, hlam⟩, hL⟩ := hs
      obtain rfl := sb hs
      obtain rfl := sb hk
      obtain ⟨z, w, e1, e2, rfl⟩ : ∃ z w, cpE m (inLam cc y scope) b = some z ∧ cpE m cc a = some w ∧ Ex.srtl w z = x := by
        split at h3 <;> first | exact ⟨_, _, by assumption, by assumption, Option.some.inj h3⟩ | cases h3
      obtain ⟨rb, la⟩ := F.lam hlam
      exact .of (pd_srtl rb F.calm la (lam_scope hL) (F.gl hg) (F.blt _ (by decide)) (S.e F e2).pe (cpE_star e2) fun fa c' s H r => (S.e (F.lamb r) e1).pe) (fun _ => rfl) fun _ _ _ z => by cases z
    · cases h1
theorem se_meth (S : Snd TT T n m) (F : Fits TT T n cc X) {o : Expr} {me : Str} {ap : Pos} {args : List Expr} {kws : List Keyword} (h : cpE (m + 1) cc (.Call (.Attribute o me ap) args kws pos) = some x) : SE X T (callN TT n) (.Call (.Attribute o me ap) args kws pos) x := by
  match args, kws, h with
  | [e], [], h =>
    obtain ⟨hb, h1⟩ := if_none (show (if !(notBare o && ap.endLine == pos.line) then none else match cpE m cc o, cpE m cc e with
      | some o, some e => if me == ("append" : Str) then some (.app o e) else if me == ("extend" : Str) then some (.ext o e) else none
      | _, _ => none) = some x from h)
    rw [Bool.not_eq_false', Bool.and_eq_true] at hb
    obtain ⟨y, z, e1, e2, e3⟩ : ∃ y z, cpE m cc o = some y ∧ cpE m cc e = some z ∧ (if me == ("append" : Str) then some (.app y z) else if me == ("extend" : Str) then some (.ext y z) else none) = some x := by
      split at h1 <;> first | exact ⟨_, _, by assumption, by assumption, h1⟩ | cases h1
    refine .of ?_ (fun _ => rfl) fun _ _ _ z => by cases z
    by_cases ha : (me == ("append" : Str)) = true
    · rw [if_pos ha] at e3
      cases e3
      exact pd_app (sb ha) (S.e F e1).pe (S.e F e2).pe hb.1 hb.2 (cpE_star e2)
    · rw [if_neg ha] at e3
      obtain ⟨he, e3⟩ := if_some e3
      cases e3
      exact pd_ext (sb he) (S.e F e1).pe (S.e F e2).pe hb.1 hb.2 (cpE_star e2)
  | [e, d], [], h =>
    obtain ⟨hb, h1⟩ := if_none (show (if !(notBare o && ap.endLine == pos.line) then none else match cpE m cc o, cpE m cc e, cpE m cc d with
      | some o, some e, some d => if me == ("get" : Str) then some (.get2 o e d) else none
      | _, _, _ => none) = some x from h)
    rw [Bool.not_eq_false', Bool.and_eq_true] at hb
    obtain ⟨y, z, w, e1, e2, e3, e4⟩ : ∃ y z w, cpE m cc o = some y ∧ cpE m cc e = some z ∧ cpE m cc d = some w ∧ (if me == ("get" : Str) then some (Ex.get2 y z w) else none) = some x := by
      split at h1 <;> first | exact ⟨_, _, _, by assumption, by assumption, by assumption, h1⟩ | cases h1
    obtain ⟨hm, e4⟩ := if_some e4
    cases e4
    exact .of (pd_get2 (sb hm) (by have := F.room.u; omega) (S.e F e1).pe (S.e F e2).pe (S.e F e3).pe hb.1 hb.2 (cpE_star e2) (cpE_star e3)) (fun _ => rfl) fun _ _ _ z => by cases z
  | [], _, h => cases (show (none : Option Ex) = some x from h)
  | [_], _ :: _, h => cases (show (none : Option Ex) = some x from h)
  | [_, _], _ :: _, h => cases (show (none : Option Ex) = some x from h)
  | _ :: _ :: _ :: _, _, h => cases (show (none : Option Ex) = some x from h)
end
end DL
end
section
set_option Elab.async false
set_option linter.all false
set_option autoImplicit false
set_option maxRecDepth 100000
/-! The data layer, part mh: the translation keeps the meaning: comprehensions, all expressions. -/
namespace DL
open PySem PySem.Spec PyProof.Rows L2
section
variable {TT : List Fn} {T : List (Addr × Str)} {n m : Nat} {cc : CC} {X : Cx} {pos : Pos} {x : Ex}
theorem bk_ok (S : Snd TT T n m) (F : Fits TT T n cc X) {scope : Scope} {g : Comprehension} {c : Cl} (hb : blkC cc.N cc.sc scope (ownOf cc.N scope) = true) (h : cpC m cc (inBlk cc scope) ((ownOf cc.N scope).map (·.2)) g = some c) :
    ∃ tg iter ifs t i cond, g = ⟨tg, iter, ifs, 0⟩ ∧ c = .mk ((ownOf cc.N scope).map (·.2)) t i cond ∧ BkOk X T (callN TT n) scope (ownOf cc.N scope) tg iter ifs t i cond := by
  obtain ⟨tg, iter, ifs, t, i, cond, rfl, rfl, hi, hs, hX, hsub⟩ := S.c h
  refine ⟨tg, iter, ifs, t, i, cond, rfl, rfl, F.calm, F.ndN, hi X F, ?_, fun s H Ca cl fp => (hX _ (F.blk s H scope cl Ca fp)).1, fun s H Ca cl fp => (hX _ (F.blk s H scope cl Ca fp)).2, hs _, hsub⟩
  rw [F.N, F.sc]
  exact blkOk_by hb
theorem bk_ok2 (S : Snd TT T n m) (F : Fits TT T n cc X) {scope : Scope} {g : Comprehension} {c : Cl} (h : cpC m (inBlk cc scope) (inBlk cc scope) ((ownOf cc.N scope).map (·.2)) g = some c) :
    ∃ tg iter ifs t i cond, g = ⟨tg, iter, ifs, 0⟩ ∧ c = .mk ((ownOf cc.N scope).map (·.2)) t i cond ∧ BkOk2 X T (callN TT n) scope (ownOf cc.N scope) tg iter ifs t i cond := by
  obtain ⟨tg, iter, ifs, t, i, cond, rfl, rfl, hi, hs, hX, hsub⟩ := S.c h
  exact ⟨tg, iter, ifs, t, i, cond, rfl, rfl, fun s H Ca cl fp => hi _ (F.blk s H scope cl Ca fp), fun s H Ca cl fp => (hX _ (F.blk s H scope cl Ca fp)).1, fun s H Ca cl fp => (hX _ (F.blk s H scope cl Ca fp)).2, hs, hsub⟩
/-- what a list comprehension's translation tells -/
theorem lc_inv {elt : Expr} {gs : List Comprehension} {scope : Scope} (h : cpE (m + 1) cc (.ListComp elt gs scope pos) = some x) : blkC cc.N cc.sc scope (ownOf cc.N scope) = true ∧ ((∃ g e c, gs = [g] ∧ cpE m (inBlk cc scope) elt = some e ∧ cpC m cc (inBlk cc scope) ((ownOf cc.N scope).map (·.2)) g = some c ∧ x = .lc e c) ∨
    ∃ g g' e c c', gs = [g, g'] ∧ cpE m (inBlk cc scope) elt = some e ∧ cpC m cc (inBlk cc scope) ((ownOf cc.N scope).map (·.2)) g = some c ∧ cpC m (inBlk cc scope) (inBlk cc scope) ((ownOf cc.N scope).map (·.2)) g' = some c' ∧ x = .lc2 e c c') := by
  match gs, h with
  | [g], h =>
    have h1 : (if !blkC cc.N cc.sc scope (ownOf cc.N scope) then none else match cpE m (inBlk cc scope) elt, cpC m cc (inBlk cc scope) ((ownOf cc.N scope).map (·.2)) g with
      | some e, some c => some (.lc e c)
      | _, _ => none) = some x := h
    obtain ⟨hb, h2⟩ := if_none h1
    clear h1 h
    refine ⟨by simpa using hb, .inl ?_⟩
    split at h2 <;> first | exact ⟨_, _, _, rfl, by assumption, by assumption, (Option.some.inj h2).symm⟩ | cases h2
  | [g, g'], h =>
    have h1 : (if !blkC cc.N cc.sc scope (ownOf cc.N scope) then none else match cpE m (inBlk cc scope) elt, cpC m cc (inBlk cc scope) ((ownOf cc.N scope).map (·.2)) g, cpC m (inBlk cc scope) (inBlk cc scope) ((ownOf cc.N scope).map (·.2)) g' with
      | some e, some c, some c' => some (.lc2 e c c')
      | _, _, _ => none) = some x := h
    obtain ⟨hb, h2⟩ := if_none h1
    clear h1 h
    refine ⟨by simpa using hb, .inr ?_⟩
    split at h2 <;> first | exact ⟨_, _, _, _, _, rfl, by assumption, by assumption, by assumption, (Option.some.inj h2).symm⟩ | cases h2
  | [], h => cases (show (none : Option Ex) = some x from h)
  | _ :: _ :: _ :: _, h => cases (show (none : Option Ex) = some x from h)
theorem se_lc (S : Snd TT T n m) (F : Fits TT T n cc X) {elt : Expr} {gs : List Comprehension} {scope : Scope} (h : cpE (m + 1) cc (.ListComp elt gs scope pos) = some x) : SE X T (callN TT n) (.ListComp elt gs scope pos) x := by
  refine .of ?_ (fun _ => rfl) fun _ _ _ z => by cases z
  obtain ⟨hb, ⟨g, e, c, rfl, e1, e2, rfl⟩ | ⟨g, g', e, c, c', rfl, e1, e2, e3, rfl⟩⟩ := lc_inv h
  · obtain ⟨tg, iter, ifs, t, i, cond, rfl, rfl, b⟩ := bk_ok S F hb e2
    exact pd_lc b fun s H Ca cl fp => (S.e (F.blk s H scope cl Ca fp) e1).pe
  · obtain ⟨tg, iter, ifs, t, i, cond, rfl, rfl, b⟩ := bk_ok S F hb e2
    obtain ⟨tg2, iter2, ifs2, t2, i2, cond2, rfl, rfl, b2⟩ := bk_ok2 S F e3
    exact pd_lc2 b b2 fun s H Ca cl fp => (S.e (F.blk s H scope cl Ca fp) e1).pe
theorem se_dc (S : Snd TT T n m) (F : Fits TT T n cc X) {k v : Expr} {gs : List Comprehension} {scope : Scope} (h : cpE (m + 1) cc (.DictComp k v gs scope pos) = some x) : SE X T (callN TT n) (.DictComp k v gs scope pos) x := by
  refine .of ?_ (fun _ => rfl) fun _ _ _ z => by cases z
  have hu : X.A.units + 8 < cLine := by have := F.room.u; omega
  by_cases hv : ∃ kk p, v = .Constant (.bool true) kk p
  · obtain ⟨kk, p, rfl⟩ := hv
    match gs, h with
    | [g], h =>
      have h1 : (if !blkC cc.N cc.sc scope (ownOf cc.N scope) then none else match cpE m (inBlk cc scope) k, cpC m cc (inBlk cc scope) ((ownOf cc.N scope).map (·.2)) g with
        | some e, some c => some (.dc e c)
        | _, _ => none) = some x := h
      obtain ⟨hb, h2⟩ := if_none h1
      clear h1 h
      obtain ⟨e, c, e1, e2, rfl⟩ : ∃ e c, cpE m (inBlk cc scope) k = some e ∧ cpC m cc (inBlk cc scope) ((ownOf cc.N scope).map (·.2)) g = some c ∧ Ex.dc e c = x := by
        split at h2 <;> first | exact ⟨_, _, by assumption, by assumption, Option.some.inj h2⟩ | cases h2
      obtain ⟨tg, iter, ifs, t, i, cond, rfl, rfl, b⟩ := bk_ok S F (by simpa using hb) e2
      exact pd_dc hu b fun s H Ca cl fp => (S.e (F.blk s H scope cl Ca fp) e1).pe
    | [g, g'], h =>
      have h1 : (if !blkC cc.N cc.sc scope (ownOf cc.N scope) then none else match cpE m (inBlk cc scope) k, cpC m cc (inBlk cc scope) ((ownOf cc.N scope).map (·.2)) g, cpC m (inBlk cc scope) (inBlk cc scope) ((ownOf cc.N scope).map (·.2)) g' with
        | some e, some c, some c' => some (.dc2 e c c')
        | _, _, _ => none) = some x := h
      obtain ⟨hb, h2⟩ := if_none h1
      clear h1 h
      obtain ⟨e, c, c', e1, e2, e3, rfl⟩ : ∃ e c c', cpE m (inBlk cc scope) k = some e ∧ cpC m cc (inBlk cc scope) ((ownOf cc.N scope).map (·.2)) g = some c ∧ cpC m (inBlk cc scope) (inBlk cc scope) ((ownOf cc.N scope).map (·.2)) g' = some c' ∧ Ex.dc2 e c c' = x := by
        split at h2 <;> first | exact ⟨_, _, _, by assumption, by assumption, by assumption, Option.some.inj h2⟩ | cases h2
      obtain ⟨tg, iter, ifs, t, i, cond, rfl, rfl, b⟩ := bk_ok S F (by simpa using hb) e2
      obtain ⟨tg2, iter2, ifs2, t2, i2, cond2, rfl, rfl, b2⟩ := bk_ok2 S F e3
      exact pd_dc2 hu b b2 fun s H Ca cl fp => (S.e (F.blk s H scope cl Ca fp) e1).pe
    | [], h => cases (show (none : Option Ex) = some x from h)
    | _ :: _ :: _ :: _, h => cases (show (none : Option Ex) = some x from h)
  · refine absurd h fun z => ?_
    have : cpE (m + 1) cc (.DictComp k v gs scope pos) = none := by
      cases v with
      | Constant c kk p =>
        cases c with
        | bool b => cases b with
          | true => exact absurd ⟨kk, p, rfl⟩ hv
          | false => rfl
        | _ => rfl
      | _ => rfl
    rw [this] at z; cases z
/-- sources -/
theorem i_ok (S : Snd TT T n m) (F : Fits TT T n cc X) {tg iter : Expr} {i : DL.It} (h : cpI (m + 1) cc tg iter = some i) : PI X tg iter (iD X.K X.w T (callN TT n) i) := by
  have any : ∀ {e : Expr}, (cpE m cc e).map DL.It.seq = some i → PI X tg e (iD X.K X.w T (callN TT n) i) := fun {e} h => by
    obtain ⟨y, e1, rfl⟩ := map_some h
    exact pi_seq (S.e F e1).pe
  cases iter with
  | Call fn args kws p =>
    cases fn with
    | Name f fp =>
      match args, kws, h with
      | [a], [], h =>
        have h1 : (if f == ("range" : Str) && bltB cc f then (cpE m cc a).map .rng else (cpE m cc (.Call (.Name f fp) [a] [] p)).map .seq) = some i := h
        by_cases hr : (f == ("range" : Str) && bltB cc f) = true
        · rw [if_pos hr] at h1
          rw [Bool.and_eq_true] at hr
          obtain ⟨y, e1, rfl⟩ := map_some h1
          have hg : glB cc.sc f = true := by
            have := hr.2
            unfold bltB at this
            rw [Bool.and_eq_true, Bool.and_eq_true] at this
            exact this.1.1
          have ef := sb hr.1
          exact pi_rng ef (by rw [← ef]; exact F.gl hg) (F.blt _ (by decide)) (S.e F e1).pe (cpE_star e1)
        · rw [if_neg hr] at h1
          exact any h1
      | [a, b], [], h =>
        have h1 : (if f == ("zip" : Str) && bltB cc f then (match tg, cpE m cc a, cpE m cc b with
          | .Tuple _ _ _, some a, some b => some (DL.It.zip a b)
          | _, _, _ => none) else (cpE m cc (.Call (.Name f fp) [a, b] [] p)).map .seq) = some i := h
        by_cases hr : (f == ("zip" : Str) && bltB cc f) = true
        · rw [if_pos hr] at h1
          rw [Bool.and_eq_true] at hr
          have hg : glB cc.sc f = true := by
            have := hr.2
            unfold bltB at this
            rw [Bool.and_eq_true, Bool.and_eq_true] at this
            exact this.1.1
          have ef := sb hr.1
          clear h any
          obtain ⟨es, k, tp, y, z, rfl, e1, e2, rfl⟩ : ∃ es k tp y z, tg = .Tuple es k tp ∧ cpE m cc a = some y ∧ cpE m cc b = some z ∧ DL.It.zip y z = i := by
            split at h1 <;> first | exact ⟨_, _, _, _, _, rfl, by assumption, by assumption, Option.some.inj h1⟩ | cases h1
          exact pi_zipD ef (by rw [← ef]; exact F.gl hg) (F.blt _ (by decide)) (S.e F e1).pe (S.e F e2).pe (cpE_star e1) (cpE_star e2)
        · rw [if_neg hr] at h1
          exact any h1
      | [], _, h => exact any h
      | [_], _ :: _, h => exact any h
      | [_, _], _ :: _, h => exact any h
      | _ :: _ :: _ :: _, _, h => exact any h
    | _ => exact any h
  | Set _ _ _ => cases (show (none : Option DL.It) = some i from h)
  | _ => exact any h
def condM (m : Nat) (cb : CC) : List Expr → Option Ox
  | [] => some Ox.none
  | [c] => (cpE m cb c).map .some
  | _ => none
theorem c_ok (S : Snd TT T n m) {cb : CC} {own : List Nat} {g : Comprehension} {c : Cl} (h : cpC (m + 1) cc cb own g = some c) : ∃ tg iter ifs t i cond, g = ⟨tg, iter, ifs, 0⟩ ∧ c = .mk own t i cond ∧ (∀ X : Cx, Fits TT T n cc X → PI X tg iter (iD X.K X.w T (callN TT n) i)) ∧ (∀ env x, foldedSetIterable iter env x = pure x) ∧
    (∀ Xb : Cx, Fits TT T n cb Xb → PG Xb tg (gT Xb.K Xb.w T t) ∧ PTs Xb ifs (tC Xb.K Xb.w T (callN TT n) cond)) ∧ ∀ j ∈ tgIds t, j ∈ own := by
  obtain ⟨tg, iter, ifs, a⟩ := g
  have h1 : (if a != 0 then none else match tgOf cb tg, cpI m cc tg iter, condM m cb ifs with
    | some t, some i, some c => if (tgIds t).all (own.contains ·) then some (Cl.mk own t i c) else none
    | _, _, _ => none) = some c := h
  obtain ⟨ha, h2⟩ := if_none h1
  clear h1 h
  have ha' : a = 0 := by simpa using ha
  subst ha'
  obtain ⟨t, i, cond, e1, e2, e3, e4⟩ : ∃ t i cond, tgOf cb tg = some t ∧ cpI m cc tg iter = some i ∧ condM m cb ifs = some cond ∧ (if (tgIds t).all (own.contains ·) then some (Cl.mk own t i cond) else none) = some c := by
    split at h2 <;> first | exact ⟨_, _, _, by assumption, by assumption, by assumption, h2⟩ | cases h2
  obtain ⟨hall, e5⟩ := if_some e4
  cases e5
  refine ⟨tg, iter, ifs, t, i, cond, rfl, rfl, fun X F => S.i F e2, cpI_set e2, fun Xb F => ⟨tg_ok F e1, ?_⟩, fun j hj => ?_⟩
  · match ifs, e3 with
    | [], e3 =>
      have e : Ox.none = cond := Option.some.inj e3
      subst e
      exact ptsd_nil
    | [c], e3 =>
      obtain ⟨y, q, rfl⟩ := map_some (show (cpE m cb c).map Ox.some = some cond from e3)
      exact ptsd_one (S.e F q).pt
    | _ :: _ :: _, e3 => cases (show (none : Option Ox) = some cond from e3)
  · have := List.all_eq_true.mp hall j hj
    simpa using this
theorem e_ok (S : Snd TT T n m) (F : Fits TT T n cc X) {e : Expr} (h : cpE (m + 1) cc e = some x) : SE X T (callN TT n) e x := by
  cases e with
  | Constant c k p => exact se_const h
  | Name y p => exact se_name F h
  | Tuple es k p => exact se_tup S F h
  | List es p => exact se_lst S F h
  | BinOp a o b p => exact se_bin S F h
  | UnaryOp o a p => exact se_un S F h
  | Compare a os bs p => exact se_cmp S F h
  | BoolOp o vs p => exact se_bool S F h
  | IfExp c a b p => exact se_ite S F h
  | Subscript a b p => exact se_sub S F h
  | ListComp e gs sc p => exact se_lc S F h
  | DictComp k v gs sc p => exact se_dc S F h
  | Call f as ks p =>
    cases f with
    | Name f fp => exact se_call S F h
    | Attribute o me ap => exact se_meth S F h
    | _ => cases (show (none : Option Ex) = some x from h)
  | _ => cases (show (none : Option Ex) = some x from h)
theorem snd_all : ∀ m : Nat, Snd TT T n m
  | 0 => by
    refine ⟨fun F h => ?_, fun F h => ?_, fun F h => ?_, fun h => ?_, fun F h => ?_⟩ <;> cases h
  | m + 1 => by
    have S := snd_all m
    refine ⟨fun F h => e_ok S F h, fun {cc X es xs} F h => ?_, fun {cc X e x} F h => ?_, fun h => c_ok S h, fun F h => i_ok S F h⟩
    · cases es with
      | nil =>
        have e : Exs.nil = xs := Option.some.inj h
        subst e
        exact pda_nil
      | cons e r =>
        obtain ⟨y, ys, e1, e2, rfl⟩ := cpEs_cons h
        exact pda_cons (S.e F e1).pe (S.es F e2) (cpE_star e1)
    · cases e with
      | none =>
        have e : Ox.none = x := Option.some.inj h
        subst e
        exact pdo_none
      | some e =>
        obtain ⟨y, e1, rfl⟩ := map_some (show (cpE m cc e).map Ox.some = some x from h)
        exact pdo_some (S.e F e1).pe
end
end DL
end
section
set_option Elab.async false
set_option linter.all false
set_option autoImplicit false
set_option maxRecDepth 100000
/-! The data layer, part mi: the translation keeps the meaning: statements. -/
namespace DL
open PySem PySem.Spec PyProof.Rows L2
section
variable {TT : List Fn} {T : List (Addr × Str)} {n m : Nat} {cc : CC} {X : Cx} {pos : Pos} {x : Sm}
structure SndS (TT : List Fn) (T : List (Addr × Str)) (n m : Nat) : Prop where
  s : ∀ {cc : CC} {X : Cx} {s : Stmt} {x : Sm}, Fits TT T n cc X → X.env.scope.kind = .function → cpS m cc s = some x → PDS X T (callN TT n) s x
  ss : ∀ {cc : CC} {X : Cx} {ss : List Stmt} {xs : Sms}, Fits TT T n cc X → X.env.scope.kind = .function → cpSs m cc ss = some xs → PDSs X T (callN TT n) ss xs
theorem swaps_no {e : Expr} {t : Option Expr} {l : Nat} {env : Env} (h1 : ∀ a b c d, e ≠ .ListComp a b c d) (h2 : ∀ a b c d, e ≠ .SetComp a b c d) (h3 : ∀ a b c d f, e ≠ .DictComp a b c d f) : swapsWith e t l env = pure false := by
  cases e <;> first | rfl | exact absurd rfl (h1 _ _ _ _) | exact absurd rfl (h2 _ _ _ _) | exact absurd rfl (h3 _ _ _ _ _)
theorem swaps_sub {e : Expr} {a b : Expr} {p : Pos} {l : Nat} {env : Env} : swapsWith e (some (.Subscript a b p)) l env = pure false := by
  cases e <;> rfl
theorem ss_name (F : Fits TT T n cc X) {y : Str} {p : Pos} {e : Expr} (h : cpS (m + 1) cc (.Assign [.Name y p] e pos) = some x) : PDS X T (callN TT n) (.Assign [.Name y p] e pos) x := by
  have S : Snd TT T n m := snd_all m
  have h1 : (∀ a b c d f, e ≠ .DictComp a b c d f) ∧ (∀ a b c d, e ≠ .SetComp a b c d) ∧ (if storeB cc y then (match slotOf cc.N y, cpE m cc e with
        | some i, some e => some (Sm.set i e)
        | _, _ => none) else none) = some x := by
    cases e <;> first | exact ⟨fun _ _ _ _ _ z => (by cases z), fun _ _ _ _ z => (by cases z), h⟩ | cases (show (none : Option Sm) = some x from h)
  clear h
  obtain ⟨nd, ns, h2⟩ := h1
  obtain ⟨st, h3⟩ := if_some h2
  clear h2
  obtain ⟨i, z, e1, e2, rfl⟩ : ∃ i z, slotOf cc.N y = some i ∧ cpE m cc e = some z ∧ Sm.set i z = x := by
    split at h3 <;> first | exact ⟨_, _, by assumption, by assumption, Option.some.inj h3⟩ | cases h3
  clear h3
  by_cases hl : ∃ el gs sc lp, e = .ListComp el gs sc lp
  · obtain ⟨el, gs, sc, lp, rfl⟩ := hl
    have hs : swapsWith (.ListComp el gs sc lp) (some (.Name y p)) pos.line X.env = pure (X.env.blockKind == .function && X.env.kindOf y == some .local && p.line == lp.line && !(sc.names.any fun (n, k) => n == y && (k == .local || k == .cell))) := rfl
    cases hB : (X.env.blockKind == .function && X.env.kindOf y == some .local && p.line == lp.line && !(sc.names.any fun (n, k) => n == y && (k == .local || k == .cell))) with
    | false =>
      rw [hB] at hs
      exact pds_set F.ndN (F.slot e1) (F.store st).1 (S.e F e2).pe hs (F.store st).2
    | true =>
      rw [hB] at hs
      simp only [Bool.and_eq_true] at hB
      have hx : X.env.scope.names.lookup y = some .local := eq_of_beq hB.1.1.2
      cases m with
      | zero => cases e2
      | succ m =>
        have S : Snd TT T n m := snd_all m
        obtain ⟨hb, ⟨g, w, c, rfl, q1, q2, rfl⟩ | ⟨g, g', w, c, c', rfl, q1, q2, q3, rfl⟩⟩ := lc_inv e2
        · obtain ⟨tg, iter, ifs, t, it, cond, rfl, rfl, b⟩ := bk_ok S F hb q2
          exact pds_setLc (F.slot e1) hx b hs fun s H Ca cl fp => (S.e (F.blk s H sc cl Ca fp) q1).pe
        · obtain ⟨tg, iter, ifs, t, it, cond, rfl, rfl, b⟩ := bk_ok S F hb q2
          obtain ⟨tg2, iter2, ifs2, t2, i2, cond2, rfl, rfl, b2⟩ := bk_ok2 S F q3
          exact pds_setLc2 (F.slot e1) hx b b2 hs fun s H Ca cl fp => (S.e (F.blk s H sc cl Ca fp) q1).pe
  · exact pds_set F.ndN (F.slot e1) (F.store st).1 (S.e F e2).pe (swaps_no (fun a b c d z => hl ⟨a, b, c, d, z⟩) ns nd) (F.store st).2
theorem par_swaps (F : Fits TT T n cc X) (hk : X.env.scope.kind = .function) {y z : Str} {py pz : Pos} {a b : Expr} {k1 k2 : Nat} {p1 p2 : Pos} (h : parB cc y z py pz a b = true) : swappedStores [.Tuple [.Name y py, .Name z pz] k1 p1] (.Tuple [a, b] k2 p2) X.env = pure (some [y, z]) := by
  unfold parB at h
  simp only [Bool.and_eq_true, Bool.not_eq_true'] at h
  obtain ⟨⟨⟨⟨⟨h1, h2⟩, h3⟩, h4⟩, h5⟩, h6⟩ := h
  have l1 := isLoc_of h1
  have l2 := isLoc_of h2
  rw [← F.sc] at l1 l2
  have hbk : X.env.blockKind = .function := by
    unfold Env.blockKind
    rw [hk]; rfl
  have k1' : (X.env.kindOf y == some .local) = true := beq_iff_eq.mpr l1
  have k2' : (X.env.kindOf z == some .local) = true := beq_iff_eq.mpr l2
  have ne : y ≠ z := fun e => by rw [e, beq_self_eq_true] at h4; cases h4
  have er : ([y, z].eraseDups).length = 2 := by
    have : (z == y) = false := beq_false_of_ne fun e => ne e.symm
    simp [List.eraseDups_cons, this]
  have fs : foldedForSure 8 a = false ∧ constantsAlone 8 a = false := by
    cases a with
    | Call _ _ _ _ => exact ⟨rfl, rfl⟩
    | List _ _ => exact ⟨rfl, rfl⟩
    | BinOp l o r p => cases l <;> first | exact ⟨rfl, rfl⟩ | cases h5
    | _ => cases h5
  unfold swappedStores
  simp only [List.length_cons, List.length_nil, hbk, List.head?_cons, Option.map_some, Option.getD_some, List.filterMap_cons, List.filterMap_nil, k1', k2', List.all_cons, List.all_nil, fs.1, fs.2, Bool.false_and, Expr.pos, beq_self_eq_true, h3, Bool.and_self, if_true, er]
  rw [if_neg (by decide)]
  split
  · rename_i hv
    exfalso
    cases a <;> first | (cases h5; done) | (cases b <;> first | (cases h6; done) | (cases hv; done))
  · rfl
theorem ss_par (F : Fits TT T n cc X) (hk : X.env.scope.kind = .function) {y z : Str} {py pz : Pos} {a b : Expr} {k1 k2 : Nat} {p1 p2 : Pos} (h : cpS (m + 1) cc (.Assign [.Tuple [.Name y py, .Name z pz] k1 p1] (.Tuple [a, b] k2 p2) pos) = some x) :
    PDS X T (callN TT n) (.Assign [.Tuple [.Name y py, .Name z pz] k1 p1] (.Tuple [a, b] k2 p2) pos) x := by
  have S : Snd TT T n m := snd_all m
  have h1 : (if parB cc y z py pz a b then (match slotOf cc.N y, slotOf cc.N z, cpE m cc a, cpE m cc b with
        | some i, some j, some a, some b => some (Sm.par i j a b)
        | _, _, _, _ => none) else none) = some x := h
  obtain ⟨hp, h2⟩ := if_some h1
  clear h1 h
  obtain ⟨i, j, u, w, e1, e2, e3, e4, rfl⟩ : ∃ i j u w, slotOf cc.N y = some i ∧ slotOf cc.N z = some j ∧ cpE m cc a = some u ∧ cpE m cc b = some w ∧ Sm.par i j u w = x := by
    split at h2 <;> first | exact ⟨_, _, _, _, by assumption, by assumption, by assumption, by assumption, Option.some.inj h2⟩ | cases h2
  have hw := par_swaps F hk (k1 := k1) (k2 := k2) (p1 := p1) (p2 := p2) hp
  unfold parB at hp
  simp only [Bool.and_eq_true, Bool.not_eq_true'] at hp
  obtain ⟨⟨⟨⟨⟨g1, g2⟩, _⟩, g4⟩, _⟩, _⟩ := hp
  have hij : i ≠ j := fun e => by
    have q1 := slot_at e1
    have q2 := slot_at e2
    rw [e, q2] at q1
    rw [Option.some.inj q1, beq_self_eq_true] at g4
    cases g4
  exact pds_par F.calm F.ndN (F.slot e1) (F.slot e2) hij (by rw [F.sc]; exact isLoc_of g1) (by rw [F.sc]; exact isLoc_of g2) (S.e F e3).pe (S.e F e4).pe (cpE_star e3) (cpE_star e4) hw
def notSl : Expr → Prop := fun i => ∀ a b c p, i ≠ .Slice a b c p
theorem ss_sto (F : Fits TT T n cc X) {o i e : Expr} {p : Pos} (h : cpS (m + 1) cc (.Assign [.Subscript o i p] e pos) = some x) : PDS X T (callN TT n) (.Assign [.Subscript o i p] e pos) x := by
  have S : Snd TT T n m := snd_all m
  have h1 : notSl i ∧ (match cpE m cc o, cpE m cc i, cpE m cc e with
        | some o, some i, some e => some (Sm.sto o i e)
        | _, _, _ => none) = some x := by
    cases i <;> first | exact ⟨fun _ _ _ _ z => (by cases z), h⟩ | cases (show (none : Option Sm) = some x from h)
  clear h
  obtain ⟨hn, h2⟩ := h1
  obtain ⟨u, v, w, e1, e2, e3, rfl⟩ : ∃ u v w, cpE m cc o = some u ∧ cpE m cc i = some v ∧ cpE m cc e = some w ∧ Sm.sto u v w = x := by
    split at h2 <;> first | exact ⟨_, _, _, by assumption, by assumption, by assumption, Option.some.inj h2⟩ | cases h2
  refine pds_sto (S.e F e1).pe (S.e F e2).pe (S.e F e3).pe (fun v => ?_) (show swapsWith e (some (.Subscript o i p)) pos.line X.env = pure false from swaps_sub) ?_
  · cases i <;> first | rfl | exact absurd rfl (hn _ _ _ _)
  · cases e <;> rfl
theorem ss_aug (F : Fits TT T n cc X) {y : Str} {p : Pos} {o : Operator} {e : Expr} (h : cpS (m + 1) cc (.AugAssign (.Name y p) o e pos) = some x) : PDS X T (callN TT n) (.AugAssign (.Name y p) o e pos) x := by
  have S : Snd TT T n m := snd_all m
  have h1 : (if storeB cc y then (match slotOf cc.N y, bopOf o, cpE m cc e with
        | some i, some o, some e => some (Sm.aug i o e)
        | _, _, _ => none) else none) = some x := h
  obtain ⟨st, h2⟩ := if_some h1
  clear h1 h
  obtain ⟨i, b, w, e1, e2, e3, rfl⟩ : ∃ i b w, slotOf cc.N y = some i ∧ bopOf o = some b ∧ cpE m cc e = some w ∧ Sm.aug i b w = x := by
    split at h2 <;> first | exact ⟨_, _, _, by assumption, by assumption, by assumption, Option.some.inj h2⟩ | cases h2
  obtain rfl := bop_of e2
  exact pds_aug F.ndN (F.slot e1) (F.store st).1 (S.e F e3).pe (F.store st).2
theorem ss_augs (F : Fits TT T n cc X) {a i : Expr} {p : Pos} {o : Operator} {e : Expr} (h : cpS (m + 1) cc (.AugAssign (.Subscript a i p) o e pos) = some x) : PDS X T (callN TT n) (.AugAssign (.Subscript a i p) o e pos) x := by
  have S : Snd TT T n m := snd_all m
  have h1 : notSl i ∧ (match cpE m cc a, cpE m cc i, bopOf o, cpE m cc e with
        | some o, some i, some b, some e => some (Sm.augs o i b e)
        | _, _, _, _ => none) = some x := by
    cases i <;> first | exact ⟨fun _ _ _ _ z => (by cases z), h⟩ | cases (show (none : Option Sm) = some x from h)
  clear h
  obtain ⟨hn, h2⟩ := h1
  obtain ⟨u, v, b, w, e1, e2, e3, e4, rfl⟩ : ∃ u v b w, cpE m cc a = some u ∧ cpE m cc i = some v ∧ bopOf o = some b ∧ cpE m cc e = some w ∧ Sm.augs u v b w = x := by
    split at h2 <;> first | exact ⟨_, _, _, _, by assumption, by assumption, by assumption, by assumption, Option.some.inj h2⟩ | cases h2
  obtain rfl := bop_of e3
  refine pds_augs (S.e F e1).pe (S.e F e2).pe (S.e F e4).pe fun ov iv new => ?_
  cases i <;> first | rfl | exact absurd rfl (hn _ _ _ _)

theorem asg_ok (F : Fits TT T n cc X) (hk : X.env.scope.kind = .function) {ts : List Expr} {e : Expr} (h : cpS (m + 1) cc (.Assign ts e pos) = some x) : PDS X T (callN TT n) (.Assign ts e pos) x := by
  cases ts with
  | nil => ((cases (show (none : Option Sm) = some _ from h)))
  | cons t r =>
    cases r with
    | cons u r =>
      cases t with
      | Tuple es k p1 =>
        cases es with
        | nil => ((cases (show (none : Option Sm) = some _ from h)))
        | cons a es =>
          cases a <;> first | ((cases (show (none : Option Sm) = some _ from h))) | (cases es with
            | nil => ((cases (show (none : Option Sm) = some _ from h)))
            | cons b es => cases b <;> first | ((cases (show (none : Option Sm) = some _ from h))) | (cases es <;> first | ((cases (show (none : Option Sm) = some _ from h))) | (cases e <;> first | ((cases (show (none : Option Sm) = some _ from h))))))
      | Subscript o i p1 => cases i <;> ((cases (show (none : Option Sm) = some _ from h)))
      | _ => ((cases (show (none : Option Sm) = some _ from h)))
    | nil =>
      cases t with
      | Name y q => exact ss_name F h
      | Subscript o i q => exact ss_sto F h
      | Tuple es k1 p1 =>
        cases es with
        | nil => ((cases (show (none : Option Sm) = some _ from h)))
        | cons a es =>
          cases es with
          | nil => cases a <;> ((cases (show (none : Option Sm) = some _ from h)))
          | cons b es =>
            cases es with
            | cons c es => cases a <;> first | ((cases (show (none : Option Sm) = some _ from h))) | (cases b <;> ((cases (show (none : Option Sm) = some _ from h))))
            | nil =>
              cases a with
              | Name y py =>
                cases b with
                | Name z pz =>
                  cases e with
                  | Tuple vs k2 p2 =>
                    cases vs with
                    | nil => ((cases (show (none : Option Sm) = some _ from h)))
                    | cons v vs =>
                      cases vs with
                      | nil => ((cases (show (none : Option Sm) = some _ from h)))
                      | cons w vs =>
                        cases vs with
                        | nil => exact ss_par F hk h
                        | cons _ _ => ((cases (show (none : Option Sm) = some _ from h)))
                  | _ => ((cases (show (none : Option Sm) = some _ from h)))
                | _ => ((cases (show (none : Option Sm) = some _ from h)))
              | _ => ((cases (show (none : Option Sm) = some _ from h)))
      | _ => ((cases (show (none : Option Sm) = some _ from h)))
theorem s_ok (S2 : SndS TT T n m) (F : Fits TT T n cc X) (hk : X.env.scope.kind = .function) {s : Stmt} (h : cpS (m + 1) cc s = some x) : PDS X T (callN TT n) s x := by
  have S : Snd TT T n m := snd_all m
  cases s with
  | Assign ts e p => exact asg_ok F hk h
  | AugAssign t o e p =>
    cases t with
    | Name y q => exact ss_aug F h
    | Subscript a i q => exact ss_augs F h
    | _ => ((cases (show (none : Option Sm) = some _ from h)))
  | Expr e p =>
    cases e with
    | Call f as ks q =>
      obtain ⟨y, e1, rfl⟩ := map_some (show (cpE m cc (.Call f as ks q)).map Sm.ex = some x from h)
      exact pds_ex (S.e F e1).pe rfl
    | _ => ((cases (show (none : Option Sm) = some _ from h)))
  | Return e p =>
    cases e with
    | none => ((cases (show (none : Option Sm) = some _ from h)))
    | some e =>
      obtain ⟨y, e1, rfl⟩ := map_some (show (cpE m cc e).map Sm.ret = some x from h)
      exact pds_ret (S.e F e1).pe
  | If c a b p =>
    obtain ⟨u, v, w, e1, e2, e3, rfl⟩ : ∃ u v w, cpE m cc c = some u ∧ cpSs m cc a = some v ∧ cpSs m cc b = some w ∧ Sm.ite u v w = x := by
      have h2 : (match cpE m cc c, cpSs m cc a, cpSs m cc b with
        | some c, some a, some b => some (Sm.ite c a b)
        | _, _, _ => none) = some x := h
      split at h2 <;> first | exact ⟨_, _, _, by assumption, by assumption, by assumption, Option.some.inj h2⟩ | cases h2
    exact pds_ite (S.e F e1).pt (S2.ss F hk e2) (S2.ss F hk e3)
  | For tg it b oe p =>
    cases oe with
    | cons _ _ => ((cases (show (none : Option Sm) = some _ from h)))
    | nil =>
      obtain ⟨u, v, w, e1, e2, e3, rfl⟩ : ∃ u v w, tgOf cc tg = some u ∧ cpI m cc tg it = some v ∧ cpSs m cc b = some w ∧ Sm.for u v w = x := by
        have h2 : (match tgOf cc tg, cpI m cc tg it, cpSs m cc b with
          | some t, some i, some b => some (Sm.for t i b)
          | _, _, _ => none) = some x := h
        split at h2 <;> first | exact ⟨_, _, _, by assumption, by assumption, by assumption, Option.some.inj h2⟩ | cases h2
      exact pds_for (by rw [F.xe]; exact PassesOwn.never) F.calm (S.i F e2) (tg_ok F e1) (S2.ss F hk e3) (cpI_set e2 _)
  | Pass p =>
    have e : Sm.pass = x := Option.some.inj h
    subst e
    exact pds_pass
  | _ => ((cases (show (none : Option Sm) = some _ from h)))
theorem snds_all : ∀ m : Nat, SndS TT T n m
  | 0 => by refine ⟨fun F hk h => ?_, fun F hk h => ?_⟩ <;> cases h
  | m + 1 => by
    have S := snds_all m
    refine ⟨fun F hk h => s_ok S F hk h, fun {cc X ss xs} F hk h => ?_⟩
    cases ss with
    | nil =>
      have e : Sms.nil = xs := Option.some.inj h
      subst e
      exact pdss_nil
    | cons s r =>
      obtain ⟨u, v, e1, e2, rfl⟩ : ∃ u v, cpS m cc s = some u ∧ cpSs m cc r = some v ∧ Sms.cons u v = xs := by
        have h2 : (match cpS m cc s, cpSs m cc r with
          | some s, some r => some (Sms.cons s r)
          | _, _ => none) = some xs := h
        split at h2 <;> first | exact ⟨_, _, by assumption, by assumption, Option.some.inj h2⟩ | cases h2
      exact pdss_cons (S.s F hk e1) (S.ss F hk e2)
end
end DL
end
section
set_option Elab.async false
set_option linter.all false
set_option autoImplicit false
set_option maxRecDepth 100000
/-! The data layer, part mj: a program of defs. -/
namespace DL
open PySem PySem.Spec PyProof.Rows L2
/-- a def of the text, its translation -/
structure DefAt (K : PySem.W.Frag) (mg : Str → Option Value) (TT : List Fn) (cc : CC) (i : Nat) (x : Str) (st : Stmt) (ps : List Str) (f : Addr) (fd : FuncData) : Prop where
  fn : Fun K x x st f fd
  mgf : mg x = some (.ref f)
  scope : FnScope cc.N ps (defScope st)
  sc : cc.sc = defScope st
  at_ : ∃ (m : Nat) (b : Sms), TT[i]? = some ⟨cc.N.length, ps.length, b⟩ ∧ cpSs m cc (defBody st) = some b
  binds : Binds K fd ps []
/-- the lambdas' tables, by the def's code -/
def LamOk (base : Heap) (mg : Str → Option Value) (T : List (Addr × Str)) (x : Str) (fd : FuncData) : Prop :=
  ∃ c P, LamX.TabB base mg c P ∧ fd.code = .ref c ∧ (P, (x ++ ".<locals>.") ++ "<lambda>") ∈ T ∧ ∀ p ∈ T, p.1 = P → p.2 = (x ++ ".<locals>.") ++ "<lambda>"
structure ProgOk (K : PySem.W.Frag) (mg : Str → Option Value) (base : Heap) (T : List (Addr × Str)) (TT : List Fn) (fns : List (Str × Nat)) (cs : List (Str × PyData)) : Prop where
  blt : ∀ x ∈ bltNames, mg x = none
  cons : ∀ x d, cs.lookup x = some d → ∃ v u, mg x = some u ∧ RelV v u ∧ ∀ L H, Rp K L H v d
  defs : ∀ x i, fns.lookup x = some i → ∃ cc st ps f fd, DefAt K mg TT cc i x st ps f fd ∧ cc.fns = fns ∧ cc.cons = cs ∧ (cc.lam = true → LamOk base mg T x fd)
section
variable {P : Program} {w : World} {K : PySem.W.Frag} {mg : Str → Option Value} {base : Heap} {T : List (Addr × Str)} {TT : List Fn} {fns : List (Str × Nat)} {cons : List (Str × PyData)}
theorem arity {i k : Nat} {fn : Fn} (h : TT[i]? = some fn) : ∀ (n : Nat) (ds : List D) (hp : Store), ds.length ≠ fn.ps → callN TT n i ds hp = .no
  | 0, _, _, _ => rfl
  | n + 1, ds, hp, hl => by
    show (match TT[i]? with | some fn => runFn (callN TT n) fn ds | none => M.no) hp = _
    rw [h]
    show runFn (callN TT n) fn ds hp = _
    unfold runFn
    rw [if_neg hl]; rfl
theorem def_next {n : Nat} (PO : ProgOk K mg base T TT fns cons) (ih : ∀ (x : Str) (i : Nat), fns.lookup x = some i → ∃ f fd ps, mg x = some (.ref f) ∧ PySem.W.keepIn K (.ref f) = true ∧ Binds K fd ps [] ∧ FnG P w K mg base n f fd ps (spD K w T TT ps n i) ∧ ∀ ds h, ds.length ≠ ps.length → callN TT n i ds h = .no)
    {cc : CC} {i : Nat} {x : Str} {st : Stmt} {ps : List Str} {f : Addr} {fd : FuncData} (A : DefAt K mg TT cc i x st ps f fd) (ef : cc.fns = fns) (ec : cc.cons = cons) (hl : cc.lam = true → LamOk base mg T x fd) : FnG P w K mg base (n + 1) f fd ps (spD K w T TT ps (n + 1) i) := by
  obtain ⟨m, b, e1, e2⟩ := A.at_
  obtain ⟨oc, od, kV, doc, pm, an, cdv, ct, osl, rfl, lk, hcd⟩ := A.fn.ex
  refine fnG_of (fn := ⟨cc.N.length, ps.length, b⟩) lk hcd A.scope e1 rfl rfl fun Ar outer s H rb => ?_
  have F : Fits TT T n cc (cxOf CXN P w K mg base cc.N x (defScope st) f cdv Ar outer s H E0N).nox := {
    N := rfl, nd := A.scope.nd, sc := A.sc.symm, fn := fun _ _ => rfl, calm := rfl, room := rb.l, xe := rfl, blt := PO.blt
    lam := fun z => ⟨rb, by
      obtain ⟨c, Pt, h1, h2, h3, h4⟩ := hl z
      exact ⟨c, Pt, h1, h2, h3, h4⟩⟩
    cons := fun y d q => PO.cons y d (by rw [← ec]; exact q)
    fns := fun y j q => ih y j (by rw [← ef]; exact q) }
  exact (snds_all m).ss F A.scope.kind e2
theorem prog_sound (PO : ProgOk K mg base T TT fns cons) : ∀ (n : Nat) (x : Str) (i : Nat), fns.lookup x = some i → ∃ f fd ps, mg x = some (.ref f) ∧ PySem.W.keepIn K (.ref f) = true ∧ Binds K fd ps [] ∧ FnG P w K mg base n f fd ps (spD K w T TT ps n i) ∧ ∀ ds h, ds.length ≠ ps.length → callN TT n i ds h = .no
  | 0, x, i, h => by
    obtain ⟨cc, st, ps, f, fd, A, _⟩ := PO.defs x i h
    obtain ⟨m, b, e1, _⟩ := A.at_
    exact ⟨f, fd, ps, A.mgf, A.fn.kp, A.binds, ⟨fun vs H Q q => q.1, fun A outer s H args us vs Q _ _ _ _ _ ⟨_, ds, h, μ, _, _, g⟩ => (show False from g).elim⟩, arity (k := 0) e1 0⟩
  | n + 1, x, i, h => by
    obtain ⟨cc, st, ps, f, fd, A, ef, ec, hl⟩ := PO.defs x i h
    obtain ⟨m, b, e1, e2⟩ := A.at_
    exact ⟨f, fd, ps, A.mgf, A.fn.kp, A.binds, def_next PO (fun y j q => prog_sound PO n y j q) A ef ec hl, arity (k := 0) e1 (n + 1)⟩
end
end DL
end
section
set_option Elab.async false
set_option linter.all false
set_option autoImplicit false
set_option maxRecDepth 100000
/-! The data layer, part mk: the end of a law. -/
namespace DL
open PySem PySem.Spec PyProof.Rows L2
/-- what is tracked when the law is called: the tables, and the script where it is not of the written part -/
def firstH (K : PySem.W.Frag) (ts : List Addr) (a : Addr) (u : HO) : Hp := fun b => if b ∈ ts then some (.tbl #[]) else if b = a ∧ K.lookup a = none then some u else none
section
variable {P : Program} {w : World} {K : PySem.W.Frag} {mg mb : Str → Option Value} {k i : Nat} {fa a : Addr} {cs : List (Addr × Addr)} {fd : FuncData} {x : Str} {s : Shared} {vs : List Value} {ns : List Int} {T : List (Addr × Str)} {TT : List Fn}
theorem firstH_tbl {ts : List Addr} {u : HO} {b : Addr} (h : b ∈ ts) : firstH K ts a u b = some (.tbl #[]) := if_pos h
theorem firstH_none {ts : List Addr} {u : HO} {b : Addr} (h : b ∉ ts) (n : b = a → K.lookup a ≠ none) : firstH K ts a u b = none := by
  unfold firstH
  rw [if_neg h, if_neg fun z => n z.1 z.2]
theorem firstH_cases {ts : List Addr} {u o : HO} {b : Addr} (h : firstH K ts a u b = some o) : (b ∈ ts ∧ o = .tbl #[]) ∨ (b ∉ ts ∧ b = a ∧ K.lookup a = none ∧ o = u) := by
  unfold firstH at h
  by_cases hb : b ∈ ts
  · rw [if_pos hb] at h
    exact .inl ⟨hb, (Option.some.inj h).symm⟩
  · rw [if_neg hb] at h
    by_cases hz : b = a ∧ K.lookup a = none
    · rw [if_pos hz] at h
      exact .inr ⟨hb, hz.1, hz.2, (Option.some.inj h).symm⟩
    · rw [if_neg hz] at h; cases h
/-- the script reads as its numbers -/
theorem ints_rep {L : Addr → Prop} {H : Hp} : ∀ ns : List Int, RpAll K L H (ns.map V.int) (ns.map PyData.int)
  | [] => .nil
  | n :: r => .cons (.int n) (ints_rep r)
theorem law_end (KX : K.In s.heap) (hns : s.heap.Ns mainGlobals mg) (hb : s.heap.Ns builtinsNs mb) (hbb : ∀ x : Str, x ≠ "__name__" → mb x = bootBuiltins x) (hlim : s.heap.NoLimit) (hg : s.gens = #[])
    (hT : ∀ p ∈ cs, s.heap.get? p.2 = some { cls := .none, data := .fields #[] }) (nT : ∀ p ∈ cs, K.lookup p.2 = none) (C : ∀ p ∈ cs, PySem.W.CodeHd s.heap p.1 p.2)
    (hbm : ∃ (bm : Addr) (ob : Obj), mg "__builtins__" = some (.ref bm) ∧ bm ≠ builtinsNs ∧ s.heap.get? bm = some ob ∧ ob.cls = .type "module" ∧ ob.dict = some builtinsNs ∧ ob.data = .plain)
    (ha : s.heap.get? a = some { cls := .type "list", data := .seq vs.toArray }) (hi : IntsAre vs ns) (hl : ns.length ≤ sizeLine) (hr : Room k callerA) (hTc : ∀ p ∈ T, p.1 ∈ cs.map (·.2))
    (F : ∀ base : Heap, K.In base → base.Ns mainGlobals mg → (∀ p ∈ cs, LamX.TabB base mg p.1 p.2) → FnG P w K mg base k fa fd [x] (spD K w T TT [x] k i)) (hbind : ∀ (s : Shared) (u : Value), BindsTo s fd ⟨[u], []⟩ [(x, u)])
    (run : ∃ h, callN TT k i [.ro (ns.map .int)] [] = .ok (.dat (.bool true)) h) :
    codeAny (model P w) callerA (.call (.ref fa) ⟨[.ref a], []⟩) (fun r s' => r = .ok (.ret (.bool true)) ∧ OldK s.heap s'.heap ∧ s'.os = s.os ∧ AllBare s'.gens) s := by
  have rv := vals_ints hi
  have lenV := hi.length
  have isT : ∀ b ∈ cs.map (·.2), s.heap.get? b = some { cls := .none, data := .fields #[] } := fun b hb => by
    obtain ⟨p, hp, rfl⟩ := List.mem_map.mp hb
    exact hT p hp
  have kT : ∀ b ∈ cs.map (·.2), K.lookup b = none := fun b hb => by
    obtain ⟨p, hp, rfl⟩ := List.mem_map.mp hb
    exact nT p hp
  have aT : a ∉ cs.map (·.2) := fun z => by
    have q := isT a z
    rw [ha] at q
    cases congrArg Obj.data (Option.some.inj q)
  obtain ⟨H, eH⟩ : ∃ H, H = firstH K (cs.map (·.2)) a (.frz { cls := .type "list", data := .seq vs.toArray } (.lst (ns.map V.int))) := ⟨_, rfl⟩
  -- what is not a table and not the script is untracked
  have un : ∀ {b : Addr} {o : Obj}, s.heap.get? b = some o → (∀ us n, o.data ≠ .seq us n) → o.data ≠ .fields #[] → H b = none := fun {b o} e h1 h2 => by
    rw [eH]
    refine firstH_none (fun z => ?_) fun z => ?_
    · rw [isT b z] at e; cases e; exact (h2 rfl).elim
    · rw [z, ha] at e; cases e; exact (h1 _ _ rfl).elim
  have unD : ∀ {b : Addr} {o : Obj} {es : Array DictEntry} {ep : Nat}, s.heap.get? b = some o → o.data = .dict es ep → H b = none := fun {b o es ep} e d =>
    un e (fun us n z => by rw [d] at z; cases z) fun z => by rw [d] at z; cases z
  have bN : ∀ {b : Addr} {m : Str → Option Value}, s.heap.Ns b m → (hidT s.heap H).Ns b m := fun {b m} ⟨o, es, ep, e, d, r⟩ => ⟨o, es, ep, hidT_get e (unD e d), d, r⟩
  have bK : K.In (hidT s.heap H) := fun b o e => hidT_get (KX b o e) (by
    rw [eH]
    refine firstH_none (fun z => ?_) fun z => ?_
    · rw [kT b z] at e; cases e
    · rw [← z, e]; intro q; cases q)
  have hM : L2.Mod K mg (hidT s.heap H) := ⟨bK, bN hns, ⟨mb, bN hb, hbb⟩, let ⟨mc, h1, h2⟩ := hlim; ⟨mc, bN h1, h2⟩⟩
  have TB : ∀ p ∈ cs, LamX.TabB (hidT s.heap H) mg p.1 p.2 := fun p hp => by
    obtain ⟨o, us, file, tf, flags, tg, inF, text, tt, e1, r1, r2, r3, rest⟩ := C p hp
    obtain ⟨bm, ob, b1, b2, b3, b4, b5, b6⟩ := hbm
    refine ⟨⟨o, us, file, tf, flags, tg, inF, text, tt, hidT_get e1 (un e1 (fun vs n z => ?_) fun z => ?_), r1, r2, r3, rest⟩, ⟨bm, ob, b1, b2, fun q => ?_, fun q => ?_, hidT_get b3 (un b3 (fun vs n z => ?_) fun z => ?_), b4, b5, b6⟩, fun z => ?_⟩
    · rw [r2] at z; cases z
    · rw [r2] at z; cases z; simp at r3
    · obtain ⟨o, es, ep, e, hd, _⟩ := hns
      rw [q, e] at b3; cases b3; rw [hd] at b6; cases b6
    · rw [q, hT p hp] at b3; cases b3; cases b6
    · rw [b6] at z; cases z
    · rw [b6] at z; cases z
    · obtain ⟨o, es, ep, e, hd, _⟩ := hns
      rw [z, hT p hp] at e; cases e; cases hd
  have ok : HOk P w H s.heap := fun b o e => by
    rw [eH] at e
    rcases firstH_cases e with ⟨h1, rfl⟩ | ⟨_, rfl, _, rfl⟩
    · exact isT b h1
    · exact ⟨ha, by rw [List.length_map]; exact hl, vs, _, rv, ha⟩
  have e0 : Env0 P w K mg (hidT s.heap H) callerA [] s H := ⟨rfl, hM, fun b o e => of_hidT e, Nat.le_of_eq (hidT_size _ _), trivial, fun b hb => absurd (show b ∈ ([] : List Addr) from hb) (by simp), ok, .of_eq hg⟩
  obtain ⟨h', erun⟩ := run
  have noL : ∀ (μ : Mu) (b : Addr), (∀ c, ¬ μ.hid c) → ¬ Lv [] μ b := fun μ b nh z => z.elim (fun ⟨l, ds, e, _⟩ => by simp at e) (nh b)
  have R0 : HRel K w T H [] ⟨fun _ => 0, fun _ => False⟩ := ⟨fun l ds e => by simp at e, fun l l' ds ds' e => by simp at e, fun p hp => LamX.TabS.nil (by rw [eH]; exact firstH_tbl (hTc p hp)), fun b z => z.elim⟩
  have rscript : RpD K w [] ⟨fun _ => 0, fun _ => False⟩ H (.ref a) (.ro (ns.map .int)) := by
    refine .ro ?_ (ints_rep ns)
    by_cases hk : K.lookup a = none
    · exact .inl ⟨.inr ⟨_, by rw [eH]; unfold firstH; rw [if_neg aT, if_pos ⟨rfl, hk⟩]⟩, noL _ _ fun _ z => z⟩
    · obtain ⟨o, ho⟩ := Option.ne_none_iff_exists'.mp hk
      have q := KX a o ho
      rw [ha] at q
      cases q
      exact .inr ⟨_, vs.toArray, _, ho, rfl, rfl, rfl, by rw [List.size_toArray, lenV]; exact hl, by simpa using rv⟩
  refine codeAny_mono ((F _ bK (bN hns) TB).run callerA [] s H ⟨[.ref a], []⟩ [.ref a] [.ref a] (fun v _ => v = .bl true) hr rfl e0 (hbind s (.ref a)) (.cons rfl .nil) ⟨rfl, [.ro (ns.map .int)], [], _, .cons rscript .nil, R0, Go.ok erun fun μ' H' st R' v r' => ?_⟩) fun r s' h => ?_
  · cases r' with | dat r' => cases r'; rfl
  cases r with
  | error e => exact (show False from h).elim
  | ok fl =>
    cases fl with
    | next => exact False.elim h
    | brk => exact False.elim h
    | cont => exact False.elim h
    | ret u =>
      obtain ⟨v, H', os, bare, U, ok', r', q⟩ := h
      have q' : v = .bl true := q
      subst q'
      obtain rfl : u = Value.bool true := r'
      have keep : ∀ b o, b ∉ cs.map (·.2) → s.heap.get? b = some o → s'.heap.get? b = some o := fun b o nb e => by
        cases q : H b with
        | none => exact U.keep b o e q (fun z => nomatch (show b ∈ ([] : List Addr) from z)) (by simp)
        | some u =>
          have q0 := q
          rw [eH] at q0
          rcases firstH_cases q0 with ⟨h1, _⟩ | ⟨_, _, _, rfl⟩
          · exact (nb h1).elim
          · obtain ⟨e1, _⟩ := ok b _ q
            obtain ⟨e2, _⟩ := ok' b _ (U.frzs b _ _ q)
            rw [e] at e1; cases e1
            exact e2
      have grown : ∀ b ∈ cs.map (·.2), ∃ more : Array Value, s'.heap.get? b = some { cls := .none, data := .fields more } := fun b hb => by
        obtain ⟨more, z⟩ := U.tbls b #[] (by rw [eH]; exact firstH_tbl hb)
        exact ⟨_, ok' b _ z⟩
      refine ⟨rfl, ⟨fun b o e => ?_, fun b o e => ?_⟩, os, bare⟩
      · by_cases hb : b ∈ cs.map (·.2)
        · obtain ⟨more, hm⟩ := grown b hb
          have e2 := isT b hb
          obtain ⟨p, hp, rfl⟩ := List.mem_map.mp hb
          rw [e2] at e
          cases e
          exact .inr (.inl ⟨((C p hp).tab (hT p hp)).isCodeTable, rfl, #[], more, rfl, by rw [Array.empty_append]; exact hm⟩)
        · exact .inl (keep b o hb e)
      · by_cases hb : b ∈ cs.map (·.2)
        · obtain ⟨more, hm⟩ := grown b hb
          exact ⟨_, hm⟩
        · exact ⟨o, keep b o hb e⟩
/-- the walk of a law row -/
theorem walk_end {l : PySem.W.OpenLaw} {n : Nat} {q : Program} {loose : List Str} {XP : (Str → Option Value) → Heap → Prop} {YP : World → Heap → Prop} {d : DefRec} {K : Params → PySem.W.Frag}
    (hn : l.most = some n) (hn2 : n ≤ sizeLine) (hdf : d.params.defaults = []) (hr : Room k callerA) (hY : ∀ (w : World) (h : Heap), YP w h → (K w.params).In h)
    (F : ∀ (w : World) (mg : Str → Option Value) (fa : Addr) (h : Heap), YP w h → (K w.params).In h → h.Ns mainGlobals mg → mg d.name = some (.ref fa) → ∃ (fd : FuncData) (cs : List (Addr × Addr)) (T : List (Addr × Str)),
      (∀ p ∈ cs, h.get? p.2 = some { cls := .none, data := .fields #[] }) ∧ (∀ p ∈ cs, (K w.params).lookup p.2 = none) ∧ (∀ p ∈ cs, PySem.W.CodeHd h p.1 p.2) ∧ (∀ p ∈ T, p.1 ∈ cs.map (·.2)) ∧ (∀ (s : Shared) (u : Value), BindsTo s fd ⟨[u], []⟩ [(x, u)]) ∧
      ∀ base : Heap, (K w.params).In base → base.Ns mainGlobals mg → (∀ p ∈ cs, LamX.TabB base mg p.1 p.2) → FnG l.prog w (K w.params) mg base k fa fd [x] (spD (K w.params) w T TT [x] k i))
    (run : ∀ ns : List Int, ns.length ≤ n → (∀ z ∈ ns, Builtin.Int.intBits z ≤ 1048576) → ∃ h, callN TT k i [.ro (ns.map .int)] [] = .ok (.dat (.bool true)) h) :
    PySem.W.WalkO q loose XP YP l.row.toRowW d [] (fun f vs => PySem.call f vs) := by
  refine Att.attach_callB hn hdf fun w s₀ s₁ mg mb fa o pm cd doc a vs ns G Y ho hd hcd hmg hobj hints hlen hbits hg => ?_
  have KX := hY w _ Y
  obtain ⟨fd, cs, T, hT, nT, C, hTc, hb, hF⟩ := F w mg fa _ Y KX G.T.g hmg
  exact law_end KX G.T.g G.T.b G.T.builtins G.T.nolimit hg hT nT C G.T.bmain hobj hints (Nat.le_trans hlen hn2) hr hTc hF hb (run ns hlen hbits)
end
end DL
end
section
set_option Elab.async false
set_option linter.all false
set_option autoImplicit false
set_option maxRecDepth 100000
/-! The data layer, part ml: the defs of a text, found in the written part. -/
namespace DL
open PySem PySem.Spec PyProof.Rows L2
structure DefIn (K : PySem.W.Frag) (x : Str) (st : Stmt) (f : Addr) (fd : FuncData) : Prop where
  a : PySem.W.nsIn K mainGlobals x = some (some (.ref f))
  fn : Fun K x x st f fd
theorem def_mk {K : PySem.W.Frag} {x : Str} {st : Stmt} {f : Addr} {oc : Value} {od an : Option Addr} {osl : Array (Option Value)} {kV doc pm cdv ct : Value} (a : PySem.W.nsIn K mainGlobals x = some (some (.ref f)))
    (l : K.lookup f = some ⟨oc, od, .func (PySem.W.fnOf x x (defArgs st) (defBody st) (defScope st) .none kV doc pm an cdv ct), osl⟩) (c : PySem.W.codeIn K cdv x = true) (k : PySem.W.keepIn K (.ref f) = true) :
    DefIn K x st f (PySem.W.fnOf x x (defArgs st) (defBody st) (defScope st) .none kV doc pm an cdv ct) := ⟨a, fun_mk l c k⟩
/-- a def with a lambda: its code object and its table -/
structure LamIn (K : PySem.W.Frag) (ts : List Addr) (fd : FuncData) (c P : Addr) : Prop where
  code : fd.code = .ref c
  hd : PySem.W.codeHdIn K c P = true
  no : K.lookup P = none
  mem : P ∈ ts
theorem lam_mk {K : PySem.W.Frag} {ts : List Addr} {fd : FuncData} {c P : Addr} {oc : Value} {od : Option Addr} {vs : Array Value} {sl : Array (Option Value)} (code : fd.code = .ref c) (l : K.lookup c = some ⟨oc, od, .fields vs, sl⟩) (h11 : vs[11]? = some (Value.ref P))
    (hd : PySem.W.codeHdIn K c P = true) (no : K.lookup P = none) (mem : P ∈ ts) : LamIn K ts fd c P := ⟨code, hd, no, mem⟩
/-- a constant of the text: None, truths, numbers, texts, tuples of such -/
def conB (K : PySem.W.Frag) : Nat → Value → PyData → Bool
  | _, .none, .none => true
  | _, .bool b, .bool c => b == c
  | _, .int i _, .int j => i == j
  | _, .str x _, .str y => x == y
  | n + 1, .ref a, .tuple ds => (match K.lookup a with
      | some ⟨.type "tuple", _, .seq its _, _⟩ => decide (its.size ≤ 1000) && conBs n its.toList ds
      | _ => false)
  | _, _, _ => false
where conBs (n : Nat) : List Value → List PyData → Bool
  | [], [] => true
  | u :: us, d :: ds => conB K n u d && conBs n us ds
  | _, _ => false
theorem conBs_ok {K : PySem.W.Frag} {n : Nat} (h : ∀ u d, conB K n u d = true → ∃ v, RelV v u ∧ ∀ L H, Rp K L H v d) : ∀ (us : List Value) (ds : List PyData), conB.conBs K n us ds = true → ∃ vs, Vals vs us ∧ ∀ L H, RpAll K L H vs ds
  | [], [], _ => ⟨[], .nil, fun _ _ => .nil⟩
  | u :: us, d :: ds, e => by
    have e' : (conB K n u d && conB.conBs K n us ds) = true := e
    rw [Bool.and_eq_true] at e'
    obtain ⟨v, h1, h2⟩ := h u d e'.1
    obtain ⟨vs, h3, h4⟩ := conBs_ok h us ds e'.2
    exact ⟨v :: vs, .cons h1 h3, fun L H => .cons (h2 L H) (h4 L H)⟩
  | [], _ :: _, e => by cases e
  | _ :: _, [], e => by cases e
theorem conB_ok {K : PySem.W.Frag} : ∀ (n : Nat) (u : Value) (d : PyData), conB K n u d = true → ∃ v, RelV v u ∧ ∀ L H, Rp K L H v d := by
  intro n
  induction n with
  | zero =>
    intro u d e
    unfold conB at e
    split at e
    · exact ⟨.non, rfl, fun _ _ => .non⟩
    · rename_i b c
      obtain rfl := eq_of_beq e
      exact ⟨.bl b, rfl, fun _ _ => .bl b⟩
    · rename_i i t j
      obtain rfl := eq_of_beq e
      exact ⟨.int i, ⟨t, rfl⟩, fun _ _ => .int i⟩
    · rename_i x t y
      obtain rfl := eq_of_beq e
      exact ⟨.str x, ⟨t, rfl⟩, fun _ _ => .str x⟩
    · cases ‹0 = _›
    · cases e
  | succ n ih =>
    intro u d e
    unfold conB at e
    split at e
    · exact ⟨.non, rfl, fun _ _ => .non⟩
    · rename_i b c
      obtain rfl := eq_of_beq e
      exact ⟨.bl b, rfl, fun _ _ => .bl b⟩
    · rename_i i t j
      obtain rfl := eq_of_beq e
      exact ⟨.int i, ⟨t, rfl⟩, fun _ _ => .int i⟩
    · rename_i x t y
      obtain rfl := eq_of_beq e
      exact ⟨.str x, ⟨t, rfl⟩, fun _ _ => .str x⟩
    · rename_i a ds en
      cases en
      split at e
      · rename_i dd its k sl hk
        rw [Bool.and_eq_true] at e
        obtain ⟨vs, h1, h2⟩ := conBs_ok ih _ _ e.2
        refine ⟨.ref a, rfl, fun L H => .tup (.inr ⟨_, its, k, hk, rfl, rfl, ?_, h1⟩) (h2 L H)⟩
        have := of_decide_eq_true e.1
        rw [sizeLine_eq]; omega
      · cases e
    · cases e
/-- all constants that the translation reads -/
def consB (K : PySem.W.Frag) (cs : List (Str × PyData)) : Bool := cs.all fun p => match PySem.W.nsIn K mainGlobals p.1 with
  | some (some u) => conB K 8 u p.2
  | _ => false
theorem cons_ok {K : PySem.W.Frag} {h : Heap} {mg : Str → Option Value} {cs : List (Str × PyData)} (X : K.In h) (G : h.Ns mainGlobals mg) (e : consB K cs = true) : ∀ x d, cs.lookup x = some d → ∃ v u, mg x = some u ∧ RelV v u ∧ ∀ L H, Rp K L H v d := fun x d q => by
  have m := List.all_eq_true.mp e (x, d) (PySem.mem_of_lookup q)
  split at m
  · rename_i u hu
    obtain ⟨v, h1, h2⟩ := conB_ok 8 u d m
    exact ⟨v, u, PySem.W.mg_of X G hu, h1, h2⟩
  · cases m
/-- the built-ins' names are not bound -/
def bltB0 (K : PySem.W.Frag) : Bool := bltNames.all fun x => match PySem.W.nsIn K mainGlobals x with
  | some none => true
  | _ => false
theorem blt_ok {K : PySem.W.Frag} {h : Heap} {mg : Str → Option Value} (X : K.In h) (G : h.Ns mainGlobals mg) (e : bltB0 K = true) : ∀ x ∈ bltNames, mg x = none := fun x hx => by
  have m := List.all_eq_true.mp e x hx
  split at m
  · rename_i hu; exact PySem.W.mg_none_of X G hu
  · cases m
/-- how the arguments of a def bind -/
def BindOk (x : Str) (st : Stmt) (ps : List Str) : Prop := ∀ (kV doc pm : Value) (an : Option Addr) (cdv ct : Value) (us : List Value), us.length = ps.length → bindArgs (PySem.W.fnOf x x (defArgs st) (defBody st) (defScope st) .none kV doc pm an cdv ct) ⟨us, []⟩ = pure (ps.zip us)
theorem defAt_mk {K : PySem.W.Frag} {h : Heap} {mg : Str → Option Value} {TT : List Fn} {cc : CC} {i m : Nat} {b : Sms} {x : Str} {st : Stmt} {ps : List Str} {f : Addr} {fd : FuncData} (X : K.In h) (G : h.Ns mainGlobals mg) (D : DefIn K x st f fd) (S : C8.scC cc.N ps (defScope st) = true) (sc : cc.sc = defScope st)
    (e1 : TT[i]? = some ⟨cc.N.length, ps.length, b⟩) (e2 : cpSs m cc (defBody st) = some b) (hb : BindOk x st ps) : DefAt K mg TT cc i x st ps f fd :=
  ⟨D.fn, PySem.W.mg_of X G D.a, let S := C8.fnScope_by S; ⟨S.kind, S.co, S.gen, S.nd, S.pre, S.par, S.nofree⟩, sc, ⟨m, b, e1, e2⟩, D.fn.binds hb⟩
theorem uniq_of : ∀ {T : List (Addr × Str)}, (T.map (·.1)).Nodup → ∀ (p : Addr) (x : Str), (p, x) ∈ T → ∀ r ∈ T, r.1 = p → r.2 = x
  | [], _, _, _, m, _, _, _ => by cases m
  | (a, y) :: T, h, p, x, m, r, hr, e => by
    rw [List.map_cons, List.nodup_cons] at h
    rcases List.mem_cons.mp m with z | z
    · cases z
      rcases List.mem_cons.mp hr with rfl | q
      · rfl
      · exact absurd (List.mem_map.mpr ⟨r, q, e⟩) h.1
    · rcases List.mem_cons.mp hr with rfl | q
      · exact absurd (List.mem_map.mpr ⟨(p, x), z, e.symm⟩) h.1
      · exact uniq_of h.2 p x z r q e
theorem lamOk_mk {base : Heap} {mg : Str → Option Value} {T : List (Addr × Str)} {K : PySem.W.Frag} {ts : List Addr} {x : Str} {fd : FuncData} {c P : Addr} (L : LamIn K ts fd c P) (TB : LamX.TabB base mg c P) (hn : (T.map (·.1)).Nodup) (hm : (P, (x ++ ".<locals>.") ++ "<lambda>") ∈ T) : LamOk base mg T x fd :=
  ⟨c, P, TB, L.code, hm, uniq_of hn P _ hm⟩
end DL
end
section
set_option Elab.async false
set_option linter.all false
set_option autoImplicit false
set_option maxRecDepth 100000
/-! The law k01: the translated bodies. -/
namespace K01
open PySem DL
/-- is_number -/
def b0 : Sms := (.cons (.ret (.and (.isi (.v 0) .int) (.not (.isi (.v 0) .bool))))
  .nil)
/-- is_name -/
def b1 : Sms := (.cons (.ite (.or (.not (.isi (.v 0) .str)) (.not (.cmp2 .le .le (.c (.int 1)) (.bi .len (.cons (.v 0) .nil)) (.g ("MOST_LETTERS" : Str) (.int 8))))) (.cons (.ret (.c (.bool false)))
  .nil) .nil)
  (.cons (.ite (.or (.cmp .notin (.ix (.v 0) (.c (.int 0))) (.g ("LETTERS" : Str) (.str ("abcdefghijklmnopqrstuvwxyz" : Str)))) (.cmp .isin (.v 0) (.g ("RESERVED" : Str) (.tuple [(.str ("and" : Str)), (.str ("average" : Str)), (.str ("by" : Str)), (.str ("count" : Str)), (.str ("data" : Str)), (.str ("fact" : Str)), (.str ("from" : Str)), (.str ("group" : Str)), (.str ("greatest" : Str)), (.str ("key" : Str)), (.str ("least" : Str)), (.str ("like" : Str)), (.str ("of" : Str)), (.str ("question" : Str)), (.str ("report" : Str)), (.str ("sum" : Str)), (.str ("the" : Str)), (.str ("to" : Str)), (.str ("unlike" : Str)), (.str ("var" : Str))])))) (.cons (.ret (.c (.bool false)))
  .nil) .nil)
  (.cons (.ret (.bi .all (.cons (.lc (.cmp .isin (.v 1) (.bin .add (.g ("LETTERS" : Str) (.str ("abcdefghijklmnopqrstuvwxyz" : Str))) (.g ("DIGITS" : Str) (.str ("0123456789" : Str))))) (.mk [1] (.name 1) (.seq (.v 0)) .none)) .nil)))
  .nil)))
/-- is_sized -/
def b2 : Sms := (.cons (.ret (.and (.isi (.v 0) .tuple) (.cmp .eq (.bi .len (.cons (.v 0) .nil)) (.v 1))))
  .nil)
/-- is_var -/
def b3 : Sms := (.cons (.ret (.and (.call 2 (.cons (.v 0) (.cons (.c (.int 2)) .nil))) (.and (.isi (.ix (.v 0) (.c (.int 0))) .str) (.and (.cmp .eq (.ix (.v 0) (.c (.int 0))) (.c (.str ("var" : Str)))) (.call 1 (.cons (.ix (.v 0) (.c (.int 1))) .nil))))))
  .nil)
/-- value_key -/
def b4 : Sms := (.cons (.ite (.call 0 (.cons (.v 0) .nil)) (.cons (.ret (.tup (.cons (.c (.int 0)) (.cons (.v 0) (.cons (.c (.str ("" : Str))) .nil)))))
  .nil) .nil)
  (.cons (.ret (.ite (.call 3 (.cons (.v 0) .nil)) (.tup (.cons (.c (.int 2)) (.cons (.c (.int 0)) (.cons (.ix (.v 0) (.c (.int 1))) .nil)))) (.tup (.cons (.c (.int 1)) (.cons (.c (.int 0)) (.cons (.v 0) .nil))))))
  .nil))
/-- fact_key -/
def b5 : Sms := (.cons (.ret (.tup (.cons (.ix (.v 0) (.c (.int 0))) (.cons (.bi .tuple (.cons (.lc (.call 4 (.cons (.v 1) .nil)) (.mk [1] (.name 1) (.seq (.ix (.v 0) (.c (.int 1)))) .none)) .nil)) .nil))))
  .nil)
/-- telling_key -/
def b6 : Sms := (.cons (.ret (.bi .tuple (.cons (.lc (.tup (.cons (.v 1) (.cons (.call 4 (.cons (.v 2) .nil)) .nil))) (.mk [1, 2] (.tup [1, 2]) (.seq (.v 0)) .none)) .nil)))
  .nil)
/-- ascending_facts -/
def b7 : Sms := (.cons (.ret (.bi .tuple (.cons (.srtf (.dc (.v 1) (.mk [1] (.name 1) (.seq (.v 0)) .none)) 5) .nil)))
  .nil)
/-- ascending_tellings -/
def b8 : Sms := (.cons (.ret (.bi .tuple (.cons (.srtf (.dc (.v 1) (.mk [1] (.name 1) (.seq (.v 0)) .none)) 6) .nil)))
  .nil)
/-- variables -/
def b9 : Sms := (.cons (.ret (.bi .tuple (.cons (.srt (.dc2 (.ix (.v 3) (.c (.int 1))) (.mk [1, 2, 3] (.tup [1, 2]) (.seq (.v 0)) .none) (.mk [1, 2, 3] (.name 3) (.seq (.v 2)) (.some (.call 3 (.cons (.v 3) .nil)))))) .nil)))
  .nil)
/-- ascending_terms -/
def b10 : Sms := (.cons (.ret (.bi .tuple (.cons (.srtf (.dc (.v 1) (.mk [1] (.name 1) (.seq (.v 0)) .none)) 4) .nil)))
  .nil)
/-- values_in -/
def b11 : Sms := (.cons (.ret (.call 10 (.cons (.lc2 (.v 3) (.mk [1, 2, 3] (.tup [1, 2]) (.seq (.v 0)) .none) (.mk [1, 2, 3] (.name 3) (.seq (.v 2)) (.some (.not (.call 3 (.cons (.v 3) .nil)))))) .nil)))
  .nil)
/-- put_in -/
def b12 : Sms := (.cons (.set 2 (.new .nil))
  (.cons (.for (.tup [3, 4]) (.seq (.v 0)) (.cons (.ex (.app (.v 2) (.tup (.cons (.v 3) (.cons (.bi .tuple (.cons (.lc (.ite (.call 3 (.cons (.v 5) .nil)) (.get2 (.v 1) (.ix (.v 5) (.c (.int 1))) (.v 5)) (.v 5)) (.mk [5] (.name 5) (.seq (.v 4)) .none)) .nil)) .nil)))))
  .nil))
  (.cons (.ret (.call 7 (.cons (.frz 2) .nil)))
  .nil)))
/-- _law_bag -/
def b13 : Sms := (.cons (.ret (.new (.cons (.c (.int 0)) (.cons (.c (.int 1234567891)) (.cons (.c (.int 0)) (.cons (.lc (.bi .abs (.cons (.v 1) .nil)) (.mk [1] (.name 1) (.seq (.sl (.v 0) .none (.some (.c (.int 63))))) .none)) .nil))))))
  .nil)
/-- _law_take -/
def b14 : Sms := (.cons (.ite (.cmp .eq (.ix (.v 0) (.c (.int 0))) (.c (.int 0))) (.cons (.set 2 (.ix (.bin .add (.sl (.ix (.v 0) (.c (.int 3))) (.some (.ix (.v 0) (.c (.int 2)))) .none) (.lst (.cons (.c (.int 0)) .nil))) (.c (.int 0))))
  (.cons (.augs (.v 0) (.c (.int 2)) .add (.c (.int 1)))
  (.cons (.ite (.cmp .ge (.v 2) (.bin .pow (.c (.int 10)) (.c (.int 18)))) (.cons (.sto (.v 0) (.c (.int 0)) (.v 2))
  .nil) .nil)
  (.cons (.set 3 (.bin .add (.bin .add (.bin .mul (.ix (.v 0) (.c (.int 1))) (.c (.int 48271))) (.bin .mod (.bi .int (.cons (.v 2) .nil)) (.c (.int 2147483647)))) (.bin .mul (.c (.int 7919)) (.ix (.v 0) (.c (.int 2))))))
  (.cons (.sto (.v 0) (.c (.int 1)) (.bin .mod (.bi .int (.cons (.v 3) .nil)) (.c (.int 2147483647))))
  .nil))))) .nil)
  (.cons (.ite (.cmp .gt (.ix (.v 0) (.c (.int 0))) (.c (.int 0))) (.cons (.set 4 (.bin .mod (.bi .int (.cons (.ix (.v 0) (.c (.int 0))) .nil)) (.v 1)))
  (.cons (.sto (.v 0) (.c (.int 0)) (.bin .fdiv (.bi .int (.cons (.ix (.v 0) (.c (.int 0))) .nil)) (.v 1)))
  (.cons (.ret (.v 4))
  .nil))) .nil)
  (.cons (.set 5 (.bin .mod (.bi .int (.cons (.bin .mul (.bin .add (.ix (.v 0) (.c (.int 1))) (.c (.int 1))) (.c (.int 39373))) .nil)) (.c (.int 1000000007))))
  (.cons (.set 6 (.bin .mod (.bi .int (.cons (.bin .mul (.bin .mod (.bi .int (.cons (.bin .mul (.v 5) (.v 5)) .nil)) (.c (.int 998244353))) (.c (.int 30011))) .nil)) (.c (.int 998244353))))
  (.cons (.ret (.bin .mod (.bi .int (.cons (.bin .fdiv (.v 6) (.c (.int 7))) .nil)) (.v 1)))
  .nil)))))
/-- _law_some -/
def b15 : Sms := (.cons (.ret (.ix (.v 1) (.call 14 (.cons (.v 0) (.cons (.bi .len (.cons (.v 1) .nil)) .nil)))))
  .nil)
/-- _law_alike -/
def b16 : Sms := (.cons (.ret (.and (.cmp .eq (.bi .repr (.cons (.v 0) .nil)) (.bi .repr (.cons (.v 1) .nil))) (.cmp .eq (.v 0) (.v 1))))
  .nil)
/-- _law_any_name -/
def b17 : Sms := (.cons (.ret (.call 15 (.cons (.v 0) (.cons (.lst (.cons (.c (.str ("a" : Str))) (.cons (.c (.str ("b" : Str))) (.cons (.c (.str ("town" : Str))) (.cons (.c (.str ("x9" : Str))) (.cons (.c (.str ("a2345678" : Str))) (.cons (.c (.str ("counts" : Str))) (.cons (.c (.str ("groups" : Str))) (.cons (.c (.str ("vars" : Str))) .nil))))))))) .nil))))
  .nil)
/-- _law_any_value -/
def b18 : Sms := (.cons (.ret (.call 15 (.cons (.v 0) (.cons (.lst (.cons (.c (.int 0)) (.cons (.c (.int 1)) (.cons (.c (.int 2)) (.cons (.neg (.c (.int 3))) (.cons (.c (.int 12)) (.cons (.call 17 (.cons (.v 0) .nil)) .nil))))))) .nil))))
  .nil)
/-- _law_any_term -/
def b19 : Sms := (.cons (.ret (.call 15 (.cons (.v 0) (.cons (.lst (.cons (.call 18 (.cons (.v 0) .nil)) (.cons (.tup (.cons (.c (.str ("var" : Str))) (.cons (.call 17 (.cons (.v 0) .nil)) .nil))) (.cons (.tup (.cons (.c (.str ("var" : Str))) (.cons (.call 17 (.cons (.v 0) .nil)) .nil))) .nil)))) .nil))))
  .nil)
/-- _law_any_facts -/
def b20 : Sms := (.cons (.set 2 (.new .nil))
  (.cons (.for (.name 3) (.rng (.call 14 (.cons (.v 0) (.cons (.c (.int 4)) .nil)))) (.cons (.ex (.app (.v 2) (.tup (.cons (.call 17 (.cons (.v 0) .nil)) (.cons (.bi .tuple (.cons (.lc (.ite (.v 1) (.call 18 (.cons (.v 0) .nil)) (.call 19 (.cons (.v 0) .nil))) (.mk [4] (.name 4) (.rng (.bin .add (.c (.int 1)) (.call 14 (.cons (.v 0) (.cons (.c (.int 3)) .nil))))) .none)) .nil)) .nil)))))
  .nil))
  (.cons (.ret (.bi .tuple (.cons (.frz 2) .nil)))
  .nil)))
/-- _law_any_telling -/
def b21 : Sms := (.cons (.set 1 (.srt (.bi .set (.cons (.lc (.call 17 (.cons (.v 0) .nil)) (.mk [2] (.name 2) (.rng (.call 14 (.cons (.v 0) (.cons (.c (.int 4)) .nil)))) .none)) .nil))))
  (.cons (.ret (.bi .tuple (.cons (.lc (.tup (.cons (.v 3) (.cons (.call 18 (.cons (.v 0) .nil)) .nil))) (.mk [3] (.name 3) (.seq (.v 1)) .none)) .nil)))
  .nil))
/-- _law_key -/
def b22 : Sms := (.cons (.ite (.isi (.v 0) .tuple) (.cons (.ret (.tup (.cons (.c (.int 2)) (.cons (.c (.int 0)) (.cons (.ix (.v 0) (.c (.int 1))) .nil)))))
  .nil) .nil)
  (.cons (.ret (.ite (.isi (.v 0) .str) (.tup (.cons (.c (.int 1)) (.cons (.c (.int 0)) (.cons (.v 0) .nil)))) (.tup (.cons (.c (.int 0)) (.cons (.v 0) (.cons (.c (.str ("" : Str))) .nil))))))
  .nil))
/-- _law_fact_key -/
def b23 : Sms := (.cons (.ret (.tup (.cons (.ix (.v 0) (.c (.int 0))) (.cons (.bi .tuple (.cons (.lc (.call 22 (.cons (.v 1) .nil)) (.mk [1] (.name 1) (.seq (.ix (.v 0) (.c (.int 1)))) .none)) .nil)) .nil))))
  .nil)
/-- _law_telling_key -/
def b24 : Sms := (.cons (.ret (.bi .tuple (.cons (.lc (.tup (.cons (.v 1) (.cons (.call 22 (.cons (.v 2) .nil)) .nil))) (.mk [1, 2] (.tup [1, 2]) (.seq (.v 0)) .none)) .nil)))
  .nil)
/-- _law_sorted_facts -/
def b25 : Sms := (.cons (.set 1 (.new .nil))
  (.cons (.for (.name 2) (.seq (.srtl (.v 0) (.call 23 (.cons (.v 0) .nil)))) (.cons (.ite (.or (.cmp .eq (.v 1) (.lst .nil)) (.cmp .ne (.ix (.v 1) (.neg (.c (.int 1)))) (.v 2))) (.cons (.ex (.app (.v 1) (.v 2)))
  .nil) .nil)
  .nil))
  (.cons (.ret (.bi .tuple (.cons (.frz 1) .nil)))
  .nil)))
/-- _law_sorted_tellings -/
def b26 : Sms := (.cons (.set 1 (.new .nil))
  (.cons (.for (.name 2) (.seq (.srtl (.v 0) (.call 24 (.cons (.v 0) .nil)))) (.cons (.ite (.or (.cmp .eq (.v 1) (.lst .nil)) (.cmp .ne (.ix (.v 1) (.neg (.c (.int 1)))) (.v 2))) (.cons (.ex (.app (.v 1) (.v 2)))
  .nil) .nil)
  .nil))
  (.cons (.ret (.bi .tuple (.cons (.frz 1) .nil)))
  .nil)))
/-- _law_do_ascend -/
def b27 : Sms := (.cons (.set 1 (.lc (.call 23 (.cons (.v 2) .nil)) (.mk [2] (.name 2) (.seq (.v 0)) .none)))
  (.cons (.ret (.cmp .eq (.lc (.c (.int 1)) (.mk [3, 4] (.tup [3, 4]) (.zip (.v 1) (.sl (.v 1) (.some (.c (.int 1))) .none)) (.some (.not (.cmp .lt (.v 3) (.v 4)))))) (.lst .nil)))
  .nil))
/-- _law_vars -/
def b28 : Sms := (.cons (.ret (.srt (.bi .set (.cons (.lc (.ix (.v 1) (.c (.int 1))) (.mk [1] (.name 1) (.seq (.bi .sum2 (.cons (.lc (.bi .list (.cons (.ix (.v 2) (.c (.int 1))) .nil)) (.mk [2] (.name 2) (.seq (.v 0)) .none)) (.cons (.lst .nil) .nil)))) (.some (.isi (.v 1) .tuple)))) .nil))))
  .nil)
/-- _law_sorted_terms -/
def b29 : Sms := (.cons (.set 1 (.new .nil))
  (.cons (.for (.name 2) (.seq (.srtl (.v 0) (.call 22 (.cons (.v 0) .nil)))) (.cons (.ex (.ext (.v 1) (.ite (.or (.cmp .eq (.v 1) (.lst .nil)) (.cmp .ne (.ix (.v 1) (.neg (.c (.int 1)))) (.v 2))) (.lst (.cons (.v 2) .nil)) (.lst .nil))))
  .nil))
  (.cons (.ret (.bi .tuple (.cons (.frz 1) .nil)))
  .nil)))
/-- _law_put -/
def b30 : Sms := (.cons (.ret (.lc (.tup (.cons (.v 3) (.cons (.bi .tuple (.cons (.lc (.ite (.isi (.v 2) .tuple) (.get2 (.v 1) (.ix (.v 2) (.c (.int 1))) (.v 2)) (.v 2)) (.mk [2] (.name 2) (.seq (.v 4)) .none)) .nil)) .nil))) (.mk [3, 4] (.tup [3, 4]) (.seq (.v 0)) .none)))
  .nil)
/-- law -/
def b31 : Sms := (.cons (.set 1 (.call 13 (.cons (.v 0) .nil)))
  (.cons (.for (.name 2) (.rng (.c (.int 10))) (.cons (.par 3 4 (.bin .add (.call 20 (.cons (.v 1) (.cons (.c (.bool false)) .nil))) (.call 20 (.cons (.v 1) (.cons (.c (.bool false)) .nil)))) (.call 20 (.cons (.v 1) (.cons (.c (.bool true)) .nil))))
  (.cons (.set 5 (.bi .tuple (.cons (.lc (.call 21 (.cons (.v 1) .nil)) (.mk [6] (.name 6) (.rng (.call 14 (.cons (.v 1) (.cons (.c (.int 5)) .nil)))) .none)) .nil)))
  (.cons (.set 7 (.bi .tuple (.cons (.lc (.call 19 (.cons (.v 1) .nil)) (.mk [6] (.name 6) (.rng (.call 14 (.cons (.v 1) (.cons (.c (.int 7)) .nil)))) .none)) .nil)))
  (.cons (.set 8 (.lst (.cons (.call 7 (.cons (.v 3) .nil)) (.cons (.call 7 (.cons (.bi .list (.cons (.v 4) .nil)) .nil)) (.cons (.call 8 (.cons (.v 5) .nil)) (.cons (.call 8 (.cons (.bi .list (.cons (.v 5) .nil)) .nil)) (.cons (.call 10 (.cons (.v 7) .nil)) (.cons (.call 10 (.cons (.bi .list (.cons (.v 7) .nil)) .nil)) .nil))))))))
  (.cons (.set 9 (.lst (.cons (.call 25 (.cons (.v 3) .nil)) (.cons (.call 25 (.cons (.v 4) .nil)) (.cons (.call 26 (.cons (.v 5) .nil)) (.cons (.call 26 (.cons (.v 5) .nil)) (.cons (.call 29 (.cons (.v 7) .nil)) (.cons (.call 29 (.cons (.v 7) .nil)) .nil))))))))
  (.cons (.ite (.not (.call 16 (.cons (.v 8) (.cons (.v 9) .nil)))) (.cons (.ret (.c (.bool false)))
  .nil) .nil)
  (.cons (.set 10 (.lc (.v 11) (.mk [11] (.name 11) (.seq (.bi .sum2 (.cons (.lc (.bi .list (.cons (.ix (.v 12) (.c (.int 1))) .nil)) (.mk [12] (.name 12) (.seq (.v 3)) .none)) (.cons (.lst .nil) .nil)))) (.some (.not (.isi (.v 11) .tuple))))))
  (.cons (.set 13 (.call 29 (.cons (.bi .sum2 (.cons (.lc (.bi .list (.cons (.ix (.v 12) (.c (.int 1))) .nil)) (.mk [12] (.name 12) (.seq (.v 4)) .none)) (.cons (.lst .nil) .nil))) .nil)))
  (.cons (.ite (.not (.call 16 (.cons (.lst (.cons (.call 9 (.cons (.v 3) .nil)) (.cons (.call 11 (.cons (.v 3) .nil)) (.cons (.call 11 (.cons (.v 4) .nil)) .nil)))) (.cons (.lst (.cons (.bi .tuple (.cons (.call 28 (.cons (.v 3) .nil)) .nil)) (.cons (.call 29 (.cons (.v 10) .nil)) (.cons (.v 13) .nil)))) .nil)))) (.cons (.ret (.c (.bool false)))
  .nil) .nil)
  (.cons (.for (.name 14) (.seq (.tup (.cons (.v 3) (.cons (.v 4) (.cons (.ix (.v 8) (.c (.int 0))) .nil))))) (.cons (.ite (.cmp .ne (.cmp .eq (.call 7 (.cons (.v 14) .nil)) (.v 14)) (.call 27 (.cons (.v 14) .nil))) (.cons (.ret (.c (.bool false)))
  .nil) .nil)
  .nil))
  (.cons (.for (.name 15) (.seq (.v 7)) (.cons (.set 16 (.lc (.v 17) (.mk [17] (.name 17) (.seq (.v 7)) (.some (.cmp .ne (.cmp .lt (.call 4 (.cons (.v 15) .nil)) (.call 4 (.cons (.v 17) .nil))) (.cmp .lt (.call 22 (.cons (.v 15) .nil)) (.call 22 (.cons (.v 17) .nil))))))))
  (.cons (.ite (.cmp .ne (.bin .add (.v 16) (.lc (.v 17) (.mk [17] (.name 17) (.seq (.v 7)) (.some (.cmp .ne (.cmp .eq (.call 4 (.cons (.v 15) .nil)) (.call 4 (.cons (.v 17) .nil))) (.cmp .eq (.call 22 (.cons (.v 15) .nil)) (.call 22 (.cons (.v 17) .nil)))))))) (.lst .nil)) (.cons (.ret (.c (.bool false)))
  .nil) .nil)
  .nil)))
  (.cons (.for (.name 15) (.seq (.v 3)) (.cons (.ite (.cmp .ne (.lc (.v 17) (.mk [17] (.name 17) (.seq (.v 3)) (.some (.cmp .ne (.cmp .lt (.call 5 (.cons (.v 15) .nil)) (.call 5 (.cons (.v 17) .nil))) (.cmp .lt (.call 23 (.cons (.v 15) .nil)) (.call 23 (.cons (.v 17) .nil))))))) (.lst .nil)) (.cons (.ret (.c (.bool false)))
  .nil) .nil)
  .nil))
  (.cons (.for (.name 15) (.seq (.v 5)) (.cons (.ite (.cmp .ne (.lc (.v 17) (.mk [17] (.name 17) (.seq (.v 5)) (.some (.cmp .ne (.cmp .lt (.call 6 (.cons (.v 15) .nil)) (.call 6 (.cons (.v 17) .nil))) (.cmp .lt (.call 24 (.cons (.v 15) .nil)) (.call 24 (.cons (.v 17) .nil))))))) (.lst .nil)) (.cons (.ret (.c (.bool false)))
  .nil) .nil)
  .nil))
  (.cons (.set 18 (.bi .dict (.cons (.lc (.tup (.cons (.v 19) (.cons (.call 19 (.cons (.v 1) .nil)) .nil))) (.mk [19] (.name 19) (.seq (.bin .add (.call 28 (.cons (.v 3) .nil)) (.lst (.cons (.c (.str ("zz" : Str))) .nil)))) (.some (.cmp .eq (.call 14 (.cons (.v 1) (.cons (.c (.int 2)) .nil))) (.c (.int 0)))))) .nil)))
  (.cons (.ite (.not (.call 16 (.cons (.call 12 (.cons (.v 3) (.cons (.v 18) .nil))) (.cons (.call 25 (.cons (.call 30 (.cons (.v 3) (.cons (.v 18) .nil))) .nil)) .nil)))) (.cons (.ret (.c (.bool false)))
  .nil) .nil)
  .nil))))))))))))))))
  (.cons (.set 20 (.lst (.cons (.tup (.cons (.c (.str ("r" : Str))) (.cons (.tup (.cons (.c (.int 2)) .nil)) .nil))) (.cons (.tup (.cons (.c (.str ("r" : Str))) (.cons (.tup (.cons (.c (.int 10)) .nil)) .nil))) (.cons (.tup (.cons (.c (.str ("r" : Str))) (.cons (.tup (.cons (.neg (.c (.int 3))) .nil)) .nil))) (.cons (.tup (.cons (.c (.str ("r" : Str))) (.cons (.tup (.cons (.c (.str ("a" : Str))) .nil)) .nil))) (.cons (.tup (.cons (.c (.str ("r" : Str))) (.cons (.tup (.cons (.tup (.cons (.c (.str ("var" : Str))) (.cons (.c (.str ("a" : Str))) .nil))) .nil)) .nil))) (.cons (.tup (.cons (.c (.str ("r" : Str))) (.cons (.tup (.cons (.c (.int 2)) (.cons (.c (.int 0)) .nil))) .nil))) (.cons (.tup (.cons (.c (.str ("q" : Str))) (.cons (.tup (.cons (.c (.str ("z" : Str))) .nil)) .nil))) (.cons (.tup (.cons (.c (.str ("r" : Str))) (.cons (.tup (.cons (.tup (.cons (.c (.str ("var" : Str))) (.cons (.c (.str ("a" : Str))) .nil))) (.cons (.c (.int 1)) .nil))) .nil))) .nil))))))))))
  (.cons (.set 9 (.tup (.cons (.tup (.cons (.c (.str ("q" : Str))) (.cons (.tup (.cons (.c (.str ("z" : Str))) .nil)) .nil))) (.cons (.tup (.cons (.c (.str ("r" : Str))) (.cons (.tup (.cons (.neg (.c (.int 3))) .nil)) .nil))) (.cons (.tup (.cons (.c (.str ("r" : Str))) (.cons (.tup (.cons (.c (.int 2)) .nil)) .nil))) (.cons (.tup (.cons (.c (.str ("r" : Str))) (.cons (.tup (.cons (.c (.int 2)) (.cons (.c (.int 0)) .nil))) .nil))) (.cons (.tup (.cons (.c (.str ("r" : Str))) (.cons (.tup (.cons (.c (.int 10)) .nil)) .nil))) (.cons (.tup (.cons (.c (.str ("r" : Str))) (.cons (.tup (.cons (.c (.str ("a" : Str))) .nil)) .nil))) (.cons (.tup (.cons (.c (.str ("r" : Str))) (.cons (.tup (.cons (.tup (.cons (.c (.str ("var" : Str))) (.cons (.c (.str ("a" : Str))) .nil))) .nil)) .nil))) (.cons (.tup (.cons (.c (.str ("r" : Str))) (.cons (.tup (.cons (.tup (.cons (.c (.str ("var" : Str))) (.cons (.c (.str ("a" : Str))) .nil))) (.cons (.c (.int 1)) .nil))) .nil))) .nil))))))))))
  (.cons (.ret (.call 16 (.cons (.lst (.cons (.call 7 (.cons (.v 20) .nil)) (.cons (.call 7 (.cons (.tup .nil) .nil)) (.cons (.call 8 (.cons (.lst .nil) .nil)) (.cons (.call 10 (.cons (.tup .nil) .nil)) (.cons (.call 9 (.cons (.tup .nil) .nil)) (.cons (.call 11 (.cons (.tup .nil) .nil)) .nil))))))) (.cons (.lst (.cons (.v 9) (.cons (.tup .nil) (.cons (.tup .nil) (.cons (.tup .nil) (.cons (.tup .nil) (.cons (.tup .nil) .nil))))))) .nil))))
  .nil)))))
def TT : List Fn := [⟨1, 1, b0⟩, ⟨2, 1, b1⟩, ⟨2, 2, b2⟩, ⟨1, 1, b3⟩, ⟨1, 1, b4⟩, ⟨2, 1, b5⟩, ⟨3, 1, b6⟩, ⟨2, 1, b7⟩, ⟨2, 1, b8⟩, ⟨4, 1, b9⟩, ⟨2, 1, b10⟩, ⟨4, 1, b11⟩, ⟨6, 2, b12⟩, ⟨2, 1, b13⟩, ⟨7, 2, b14⟩, ⟨2, 2, b15⟩, ⟨2, 2, b16⟩, ⟨1, 1, b17⟩, ⟨1, 1, b18⟩, ⟨1, 1, b19⟩, ⟨5, 2, b20⟩, ⟨4, 1, b21⟩, ⟨1, 1, b22⟩, ⟨2, 1, b23⟩, ⟨3, 1, b24⟩, ⟨3, 1, b25⟩, ⟨3, 1, b26⟩, ⟨5, 1, b27⟩, ⟨3, 1, b28⟩, ⟨3, 1, b29⟩, ⟨5, 2, b30⟩, ⟨21, 1, b31⟩]
end K01
end
section
set_option Elab.async false
set_option linter.all false
set_option autoImplicit false
set_option maxRecDepth 100000
/-! The law k01: the program's side. -/
namespace K01
open PySem PySem.Spec PyProof.Rows L2 DL
def topS (i : Nat) : Stmt := PySem.Challenge.pw_countalike_k01_orders_of_terms_facts_and.main.body.getD i (.Pass ⟨0, 0, 0, 0⟩)
def fnsT : List (Str × Nat) := [("is_number", 0), ("is_name", 1), ("is_sized", 2), ("is_var", 3), ("value_key", 4), ("fact_key", 5), ("telling_key", 6), ("ascending_facts", 7), ("ascending_tellings", 8), ("variables", 9), ("ascending_terms", 10), ("values_in", 11), ("put_in", 12), ("_law_bag", 13), ("_law_take", 14), ("_law_some", 15), ("_law_alike", 16), ("_law_any_name", 17), ("_law_any_value", 18), ("_law_any_term", 19), ("_law_any_facts", 20), ("_law_any_telling", 21), ("_law_key", 22), ("_law_fact_key", 23), ("_law_telling_key", 24), ("_law_sorted_facts", 25), ("_law_sorted_tellings", 26), ("_law_do_ascend", 27), ("_law_vars", 28), ("_law_sorted_terms", 29), ("_law_put", 30), ("law", 31)]
def consT : List (Str × PyData) := [("LETTERS", .str ("abcdefghijklmnopqrstuvwxyz" : Str)), ("DIGITS", .str ("0123456789" : Str)), ("MOST_LETTERS", .int 8), ("RESERVED", .tuple [.str ("and" : Str), .str ("average" : Str), .str ("by" : Str), .str ("count" : Str), .str ("data" : Str), .str ("fact" : Str), .str ("from" : Str), .str ("group" : Str), .str ("greatest" : Str), .str ("key" : Str), .str ("least" : Str), .str ("like" : Str), .str ("of" : Str), .str ("question" : Str), .str ("report" : Str), .str ("sum" : Str), .str ("the" : Str), .str ("to" : Str), .str ("unlike" : Str), .str ("var" : Str)])]
def hfT : List (Nat × Nat) := [(41, 27), (74, 17), (91, 17), (97, 17), (107, 17)]
def hmT : List (Nat × Nat) := [(38, 12), (44, 11), (71, 12), (87, 12), (93, 12), (104, 12)]
def ccOf (N : List Str) (i : Nat) (lam : Bool) : CC := { N := N, sc := defScope (topS i), fn := fun _ => true, fns := fnsT, cons := consT, hm := hmT, hf := hfT, lam := lam }
def N0 : List Str := ["thing"]
theorem tr0 : cpSs 60 (ccOf N0 5 false) (defBody (topS 5)) = some b0 := by kernel_rfl
theorem sc0 : C8.scC N0 ["thing"] (defScope (topS 5)) = true := by decide +kernel
theorem bd0 : BindOk "is_number" (topS 5) ["thing"] := fun _ _ _ _ _ _ us hl => match us, hl with | [_], _ => rfl
def N1 : List Str := ["thing", "sign"]
theorem tr1 : cpSs 60 (ccOf N1 6 false) (defBody (topS 6)) = some b1 := by kernel_rfl
theorem sc1 : C8.scC N1 ["thing"] (defScope (topS 6)) = true := by decide +kernel
theorem bd1 : BindOk "is_name" (topS 6) ["thing"] := fun _ _ _ _ _ _ us hl => match us, hl with | [_], _ => rfl
def N2 : List Str := ["thing", "many"]
theorem tr2 : cpSs 60 (ccOf N2 7 false) (defBody (topS 7)) = some b2 := by kernel_rfl
theorem sc2 : C8.scC N2 ["thing", "many"] (defScope (topS 7)) = true := by decide +kernel
theorem bd2 : BindOk "is_sized" (topS 7) ["thing", "many"] := fun _ _ _ _ _ _ us hl => match us, hl with | [_, _], _ => rfl
def N3 : List Str := ["thing"]
theorem tr3 : cpSs 60 (ccOf N3 8 false) (defBody (topS 8)) = some b3 := by kernel_rfl
theorem sc3 : C8.scC N3 ["thing"] (defScope (topS 8)) = true := by decide +kernel
theorem bd3 : BindOk "is_var" (topS 8) ["thing"] := fun _ _ _ _ _ _ us hl => match us, hl with | [_], _ => rfl
def N4 : List Str := ["term"]
theorem tr4 : cpSs 60 (ccOf N4 10 false) (defBody (topS 10)) = some b4 := by kernel_rfl
theorem sc4 : C8.scC N4 ["term"] (defScope (topS 10)) = true := by decide +kernel
theorem bd4 : BindOk "value_key" (topS 10) ["term"] := fun _ _ _ _ _ _ us hl => match us, hl with | [_], _ => rfl
def N5 : List Str := ["fact", "term"]
theorem tr5 : cpSs 60 (ccOf N5 11 false) (defBody (topS 11)) = some b5 := by kernel_rfl
theorem sc5 : C8.scC N5 ["fact"] (defScope (topS 11)) = true := by decide +kernel
theorem bd5 : BindOk "fact_key" (topS 11) ["fact"] := fun _ _ _ _ _ _ us hl => match us, hl with | [_], _ => rfl
def N6 : List Str := ["telling", "name", "value"]
theorem tr6 : cpSs 60 (ccOf N6 12 false) (defBody (topS 12)) = some b6 := by kernel_rfl
theorem sc6 : C8.scC N6 ["telling"] (defScope (topS 12)) = true := by decide +kernel
theorem bd6 : BindOk "telling_key" (topS 12) ["telling"] := fun _ _ _ _ _ _ us hl => match us, hl with | [_], _ => rfl
def N7 : List Str := ["facts", "fact"]
theorem tr7 : cpSs 60 (ccOf N7 13 false) (defBody (topS 13)) = some b7 := by kernel_rfl
theorem sc7 : C8.scC N7 ["facts"] (defScope (topS 13)) = true := by decide +kernel
theorem bd7 : BindOk "ascending_facts" (topS 13) ["facts"] := fun _ _ _ _ _ _ us hl => match us, hl with | [_], _ => rfl
def N8 : List Str := ["tellings", "telling"]
theorem tr8 : cpSs 60 (ccOf N8 14 false) (defBody (topS 14)) = some b8 := by kernel_rfl
theorem sc8 : C8.scC N8 ["tellings"] (defScope (topS 14)) = true := by decide +kernel
theorem bd8 : BindOk "ascending_tellings" (topS 14) ["tellings"] := fun _ _ _ _ _ _ us hl => match us, hl with | [_], _ => rfl
def N9 : List Str := ["facts", "link", "terms", "term"]
theorem tr9 : cpSs 60 (ccOf N9 15 false) (defBody (topS 15)) = some b9 := by kernel_rfl
theorem sc9 : C8.scC N9 ["facts"] (defScope (topS 15)) = true := by decide +kernel
theorem bd9 : BindOk "variables" (topS 15) ["facts"] := fun _ _ _ _ _ _ us hl => match us, hl with | [_], _ => rfl
def N10 : List Str := ["terms", "term"]
theorem tr10 : cpSs 60 (ccOf N10 16 false) (defBody (topS 16)) = some b10 := by kernel_rfl
theorem sc10 : C8.scC N10 ["terms"] (defScope (topS 16)) = true := by decide +kernel
theorem bd10 : BindOk "ascending_terms" (topS 16) ["terms"] := fun _ _ _ _ _ _ us hl => match us, hl with | [_], _ => rfl
def N11 : List Str := ["facts", "link", "terms", "term"]
theorem tr11 : cpSs 60 (ccOf N11 17 false) (defBody (topS 17)) = some b11 := by kernel_rfl
theorem sc11 : C8.scC N11 ["facts"] (defScope (topS 17)) = true := by decide +kernel
theorem bd11 : BindOk "values_in" (topS 17) ["facts"] := fun _ _ _ _ _ _ us hl => match us, hl with | [_], _ => rfl
def N12 : List Str := ["facts", "told", "found", "link", "terms", "term"]
theorem tr12 : cpSs 60 (ccOf N12 18 false) (defBody (topS 18)) = some b12 := by kernel_rfl
theorem sc12 : C8.scC N12 ["facts", "told"] (defScope (topS 18)) = true := by decide +kernel
theorem bd12 : BindOk "put_in" (topS 18) ["facts", "told"] := fun _ _ _ _ _ _ us hl => match us, hl with | [_, _], _ => rfl
def N13 : List Str := ["script", "cell"]
theorem tr13 : cpSs 60 (ccOf N13 20 false) (defBody (topS 20)) = some b13 := by kernel_rfl
theorem sc13 : C8.scC N13 ["script"] (defScope (topS 20)) = true := by decide +kernel
theorem bd13 : BindOk "_law_bag" (topS 20) ["script"] := fun _ _ _ _ _ _ us hl => match us, hl with | [_], _ => rfl
def N14 : List Str := ["bag", "many", "cell", "stirred", "one_value", "begin", "second"]
theorem tr14 : cpSs 60 (ccOf N14 21 false) (defBody (topS 21)) = some b14 := by kernel_rfl
theorem sc14 : C8.scC N14 ["bag", "many"] (defScope (topS 21)) = true := by decide +kernel
theorem bd14 : BindOk "_law_take" (topS 21) ["bag", "many"] := fun _ _ _ _ _ _ us hl => match us, hl with | [_, _], _ => rfl
def N15 : List Str := ["bag", "things"]
theorem tr15 : cpSs 60 (ccOf N15 22 false) (defBody (topS 22)) = some b15 := by kernel_rfl
theorem sc15 : C8.scC N15 ["bag", "things"] (defScope (topS 22)) = true := by decide +kernel
theorem bd15 : BindOk "_law_some" (topS 22) ["bag", "things"] := fun _ _ _ _ _ _ us hl => match us, hl with | [_, _], _ => rfl
def N16 : List Str := ["found", "due"]
theorem tr16 : cpSs 60 (ccOf N16 23 false) (defBody (topS 23)) = some b16 := by kernel_rfl
theorem sc16 : C8.scC N16 ["found", "due"] (defScope (topS 23)) = true := by decide +kernel
theorem bd16 : BindOk "_law_alike" (topS 23) ["found", "due"] := fun _ _ _ _ _ _ us hl => match us, hl with | [_, _], _ => rfl
def N17 : List Str := ["bag"]
theorem tr17 : cpSs 60 (ccOf N17 24 false) (defBody (topS 24)) = some b17 := by kernel_rfl
theorem sc17 : C8.scC N17 ["bag"] (defScope (topS 24)) = true := by decide +kernel
theorem bd17 : BindOk "_law_any_name" (topS 24) ["bag"] := fun _ _ _ _ _ _ us hl => match us, hl with | [_], _ => rfl
def N18 : List Str := ["bag"]
theorem tr18 : cpSs 60 (ccOf N18 25 false) (defBody (topS 25)) = some b18 := by kernel_rfl
theorem sc18 : C8.scC N18 ["bag"] (defScope (topS 25)) = true := by decide +kernel
theorem bd18 : BindOk "_law_any_value" (topS 25) ["bag"] := fun _ _ _ _ _ _ us hl => match us, hl with | [_], _ => rfl
def N19 : List Str := ["bag"]
theorem tr19 : cpSs 60 (ccOf N19 26 false) (defBody (topS 26)) = some b19 := by kernel_rfl
theorem sc19 : C8.scC N19 ["bag"] (defScope (topS 26)) = true := by decide +kernel
theorem bd19 : BindOk "_law_any_term" (topS 26) ["bag"] := fun _ _ _ _ _ _ us hl => match us, hl with | [_], _ => rfl
def N20 : List Str := ["bag", "is_plain", "found", "k", "j"]
theorem tr20 : cpSs 60 (ccOf N20 27 false) (defBody (topS 27)) = some b20 := by kernel_rfl
theorem sc20 : C8.scC N20 ["bag", "is_plain"] (defScope (topS 27)) = true := by decide +kernel
theorem bd20 : BindOk "_law_any_facts" (topS 27) ["bag", "is_plain"] := fun _ _ _ _ _ _ us hl => match us, hl with | [_, _], _ => rfl
def N21 : List Str := ["bag", "names", "k", "name"]
theorem tr21 : cpSs 60 (ccOf N21 28 false) (defBody (topS 28)) = some b21 := by kernel_rfl
theorem sc21 : C8.scC N21 ["bag"] (defScope (topS 28)) = true := by decide +kernel
theorem bd21 : BindOk "_law_any_telling" (topS 28) ["bag"] := fun _ _ _ _ _ _ us hl => match us, hl with | [_], _ => rfl
def N22 : List Str := ["term"]
theorem tr22 : cpSs 60 (ccOf N22 29 false) (defBody (topS 29)) = some b22 := by kernel_rfl
theorem sc22 : C8.scC N22 ["term"] (defScope (topS 29)) = true := by decide +kernel
theorem bd22 : BindOk "_law_key" (topS 29) ["term"] := fun _ _ _ _ _ _ us hl => match us, hl with | [_], _ => rfl
def N23 : List Str := ["fact", "term"]
theorem tr23 : cpSs 60 (ccOf N23 30 false) (defBody (topS 30)) = some b23 := by kernel_rfl
theorem sc23 : C8.scC N23 ["fact"] (defScope (topS 30)) = true := by decide +kernel
theorem bd23 : BindOk "_law_fact_key" (topS 30) ["fact"] := fun _ _ _ _ _ _ us hl => match us, hl with | [_], _ => rfl
def N24 : List Str := ["telling", "name", "one_value"]
theorem tr24 : cpSs 60 (ccOf N24 31 false) (defBody (topS 31)) = some b24 := by kernel_rfl
theorem sc24 : C8.scC N24 ["telling"] (defScope (topS 31)) = true := by decide +kernel
theorem bd24 : BindOk "_law_telling_key" (topS 31) ["telling"] := fun _ _ _ _ _ _ us hl => match us, hl with | [_], _ => rfl
def N25 : List Str := ["facts", "found", "fact"]
theorem tr25 : cpSs 60 (ccOf N25 32 true) (defBody (topS 32)) = some b25 := by kernel_rfl
theorem sc25 : C8.scC N25 ["facts"] (defScope (topS 32)) = true := by decide +kernel
theorem bd25 : BindOk "_law_sorted_facts" (topS 32) ["facts"] := fun _ _ _ _ _ _ us hl => match us, hl with | [_], _ => rfl
def N26 : List Str := ["tellings", "found", "one"]
theorem tr26 : cpSs 60 (ccOf N26 33 true) (defBody (topS 33)) = some b26 := by kernel_rfl
theorem sc26 : C8.scC N26 ["tellings"] (defScope (topS 33)) = true := by decide +kernel
theorem bd26 : BindOk "_law_sorted_tellings" (topS 33) ["tellings"] := fun _ _ _ _ _ _ us hl => match us, hl with | [_], _ => rfl
def N27 : List Str := ["facts", "keys", "fact", "one", "other"]
theorem tr27 : cpSs 60 (ccOf N27 34 false) (defBody (topS 34)) = some b27 := by kernel_rfl
theorem sc27 : C8.scC N27 ["facts"] (defScope (topS 34)) = true := by decide +kernel
theorem bd27 : BindOk "_law_do_ascend" (topS 34) ["facts"] := fun _ _ _ _ _ _ us hl => match us, hl with | [_], _ => rfl
def N28 : List Str := ["facts", "term", "fact"]
theorem tr28 : cpSs 60 (ccOf N28 35 false) (defBody (topS 35)) = some b28 := by kernel_rfl
theorem sc28 : C8.scC N28 ["facts"] (defScope (topS 35)) = true := by decide +kernel
theorem bd28 : BindOk "_law_vars" (topS 35) ["facts"] := fun _ _ _ _ _ _ us hl => match us, hl with | [_], _ => rfl
def N29 : List Str := ["terms", "found", "term"]
theorem tr29 : cpSs 60 (ccOf N29 36 true) (defBody (topS 36)) = some b29 := by kernel_rfl
theorem sc29 : C8.scC N29 ["terms"] (defScope (topS 36)) = true := by decide +kernel
theorem bd29 : BindOk "_law_sorted_terms" (topS 36) ["terms"] := fun _ _ _ _ _ _ us hl => match us, hl with | [_], _ => rfl
def N30 : List Str := ["facts", "told", "term", "link", "terms"]
theorem tr30 : cpSs 60 (ccOf N30 37 false) (defBody (topS 37)) = some b30 := by kernel_rfl
theorem sc30 : C8.scC N30 ["facts", "told"] (defScope (topS 37)) = true := by decide +kernel
theorem bd30 : BindOk "_law_put" (topS 37) ["facts", "told"] := fun _ _ _ _ _ _ us hl => match us, hl with | [_, _], _ => rfl
def N31 : List Str := ["script", "bag", "turn", "facts", "plain", "tellings", "k", "terms", "found", "due", "values", "term", "fact", "every", "lot", "one", "wrong", "other", "told", "name", "short"]
theorem tr31 : cpSs 60 (ccOf N31 38 false) (defBody (topS 38)) = some b31 := by kernel_rfl
theorem sc31 : C8.scC N31 ["script"] (defScope (topS 38)) = true := by decide +kernel
theorem bd31 : BindOk "law" (topS 38) ["script"] := fun _ _ _ _ _ _ us hl => match us, hl with | [_], _ => rfl
def tabT (P25 P26 P29 : Addr) : List (Addr × Str) := [(P25, (("_law_sorted_facts" : Str) ++ ".<locals>.") ++ "<lambda>"), (P26, (("_law_sorted_tellings" : Str) ++ ".<locals>.") ++ "<lambda>"), (P29, (("_law_sorted_terms" : Str) ++ ".<locals>.") ++ "<lambda>")]
section
variable {P : Program} {w : World} {K : PySem.W.Frag} {mg : Str → Option Value} {h : Heap} {fa : Addr} {ts : List Addr} {P25 P26 P29 : Addr}
theorem all_mk {k : Nat} (X : K.In h) (G : h.Ns mainGlobals mg) (hfa : mg "law" = some (.ref fa)) (hts : ∀ p ∈ ts, h.get? p = some { cls := .none, data := .fields #[] }) (hb : bltB0 K = true) (hc : consB K consT = true)
    (D0 : ∃ f fd, DefIn K "is_number" (topS 5) f fd)
    (D1 : ∃ f fd, DefIn K "is_name" (topS 6) f fd)
    (D2 : ∃ f fd, DefIn K "is_sized" (topS 7) f fd)
    (D3 : ∃ f fd, DefIn K "is_var" (topS 8) f fd)
    (D4 : ∃ f fd, DefIn K "value_key" (topS 10) f fd)
    (D5 : ∃ f fd, DefIn K "fact_key" (topS 11) f fd)
    (D6 : ∃ f fd, DefIn K "telling_key" (topS 12) f fd)
    (D7 : ∃ f fd, DefIn K "ascending_facts" (topS 13) f fd)
    (D8 : ∃ f fd, DefIn K "ascending_tellings" (topS 14) f fd)
    (D9 : ∃ f fd, DefIn K "variables" (topS 15) f fd)
    (D10 : ∃ f fd, DefIn K "ascending_terms" (topS 16) f fd)
    (D11 : ∃ f fd, DefIn K "values_in" (topS 17) f fd)
    (D12 : ∃ f fd, DefIn K "put_in" (topS 18) f fd)
    (D13 : ∃ f fd, DefIn K "_law_bag" (topS 20) f fd)
    (D14 : ∃ f fd, DefIn K "_law_take" (topS 21) f fd)
    (D15 : ∃ f fd, DefIn K "_law_some" (topS 22) f fd)
    (D16 : ∃ f fd, DefIn K "_law_alike" (topS 23) f fd)
    (D17 : ∃ f fd, DefIn K "_law_any_name" (topS 24) f fd)
    (D18 : ∃ f fd, DefIn K "_law_any_value" (topS 25) f fd)
    (D19 : ∃ f fd, DefIn K "_law_any_term" (topS 26) f fd)
    (D20 : ∃ f fd, DefIn K "_law_any_facts" (topS 27) f fd)
    (D21 : ∃ f fd, DefIn K "_law_any_telling" (topS 28) f fd)
    (D22 : ∃ f fd, DefIn K "_law_key" (topS 29) f fd)
    (D23 : ∃ f fd, DefIn K "_law_fact_key" (topS 30) f fd)
    (D24 : ∃ f fd, DefIn K "_law_telling_key" (topS 31) f fd)
    (D25 : ∃ f fd c, DefIn K "_law_sorted_facts" (topS 32) f fd ∧ LamIn K ts fd c P25)
    (D26 : ∃ f fd c, DefIn K "_law_sorted_tellings" (topS 33) f fd ∧ LamIn K ts fd c P26)
    (D27 : ∃ f fd, DefIn K "_law_do_ascend" (topS 34) f fd)
    (D28 : ∃ f fd, DefIn K "_law_vars" (topS 35) f fd)
    (D29 : ∃ f fd c, DefIn K "_law_sorted_terms" (topS 36) f fd ∧ LamIn K ts fd c P29)
    (D30 : ∃ f fd, DefIn K "_law_put" (topS 37) f fd)
    (D31 : ∃ f fd, DefIn K "law" (topS 38) f fd)
    (hnd : ((tabT P25 P26 P29).map (·.1)).Nodup) :
    ∃ (fd : FuncData) (cs : List (Addr × Addr)) (T : List (Addr × Str)), (∀ p ∈ cs, h.get? p.2 = some { cls := .none, data := .fields #[] }) ∧ (∀ p ∈ cs, K.lookup p.2 = none) ∧ (∀ p ∈ cs, PySem.W.CodeHd h p.1 p.2) ∧ (∀ p ∈ T, p.1 ∈ cs.map (·.2)) ∧ (∀ (s : Shared) (u : Value), BindsTo s fd ⟨[u], []⟩ [(("script" : Str), u)]) ∧
      ∀ base : Heap, K.In base → base.Ns mainGlobals mg → (∀ p ∈ cs, LamX.TabB base mg p.1 p.2) → FnG P w K mg base (k + 1) fa fd ["script"] (spD K w T TT ["script"] (k + 1) 31) := by
  obtain ⟨f0, fd0, E0⟩ := D0
  obtain ⟨f1, fd1, E1⟩ := D1
  obtain ⟨f2, fd2, E2⟩ := D2
  obtain ⟨f3, fd3, E3⟩ := D3
  obtain ⟨f4, fd4, E4⟩ := D4
  obtain ⟨f5, fd5, E5⟩ := D5
  obtain ⟨f6, fd6, E6⟩ := D6
  obtain ⟨f7, fd7, E7⟩ := D7
  obtain ⟨f8, fd8, E8⟩ := D8
  obtain ⟨f9, fd9, E9⟩ := D9
  obtain ⟨f10, fd10, E10⟩ := D10
  obtain ⟨f11, fd11, E11⟩ := D11
  obtain ⟨f12, fd12, E12⟩ := D12
  obtain ⟨f13, fd13, E13⟩ := D13
  obtain ⟨f14, fd14, E14⟩ := D14
  obtain ⟨f15, fd15, E15⟩ := D15
  obtain ⟨f16, fd16, E16⟩ := D16
  obtain ⟨f17, fd17, E17⟩ := D17
  obtain ⟨f18, fd18, E18⟩ := D18
  obtain ⟨f19, fd19, E19⟩ := D19
  obtain ⟨f20, fd20, E20⟩ := D20
  obtain ⟨f21, fd21, E21⟩ := D21
  obtain ⟨f22, fd22, E22⟩ := D22
  obtain ⟨f23, fd23, E23⟩ := D23
  obtain ⟨f24, fd24, E24⟩ := D24
  obtain ⟨f25, fd25, c25, E25, L25⟩ := D25
  obtain ⟨f26, fd26, c26, E26, L26⟩ := D26
  obtain ⟨f27, fd27, E27⟩ := D27
  obtain ⟨f28, fd28, E28⟩ := D28
  obtain ⟨f29, fd29, c29, E29, L29⟩ := D29
  obtain ⟨f30, fd30, E30⟩ := D30
  obtain ⟨f31, fd31, E31⟩ := D31
  have A0 : DefAt K mg TT (ccOf N0 5 false) 0 "is_number" (topS 5) ["thing"] f0 fd0 := defAt_mk X G E0 sc0 rfl rfl tr0 bd0
  have A1 : DefAt K mg TT (ccOf N1 6 false) 1 "is_name" (topS 6) ["thing"] f1 fd1 := defAt_mk X G E1 sc1 rfl rfl tr1 bd1
  have A2 : DefAt K mg TT (ccOf N2 7 false) 2 "is_sized" (topS 7) ["thing", "many"] f2 fd2 := defAt_mk X G E2 sc2 rfl rfl tr2 bd2
  have A3 : DefAt K mg TT (ccOf N3 8 false) 3 "is_var" (topS 8) ["thing"] f3 fd3 := defAt_mk X G E3 sc3 rfl rfl tr3 bd3
  have A4 : DefAt K mg TT (ccOf N4 10 false) 4 "value_key" (topS 10) ["term"] f4 fd4 := defAt_mk X G E4 sc4 rfl rfl tr4 bd4
  have A5 : DefAt K mg TT (ccOf N5 11 false) 5 "fact_key" (topS 11) ["fact"] f5 fd5 := defAt_mk X G E5 sc5 rfl rfl tr5 bd5
  have A6 : DefAt K mg TT (ccOf N6 12 false) 6 "telling_key" (topS 12) ["telling"] f6 fd6 := defAt_mk X G E6 sc6 rfl rfl tr6 bd6
  have A7 : DefAt K mg TT (ccOf N7 13 false) 7 "ascending_facts" (topS 13) ["facts"] f7 fd7 := defAt_mk X G E7 sc7 rfl rfl tr7 bd7
  have A8 : DefAt K mg TT (ccOf N8 14 false) 8 "ascending_tellings" (topS 14) ["tellings"] f8 fd8 := defAt_mk X G E8 sc8 rfl rfl tr8 bd8
  have A9 : DefAt K mg TT (ccOf N9 15 false) 9 "variables" (topS 15) ["facts"] f9 fd9 := defAt_mk X G E9 sc9 rfl rfl tr9 bd9
  have A10 : DefAt K mg TT (ccOf N10 16 false) 10 "ascending_terms" (topS 16) ["terms"] f10 fd10 := defAt_mk X G E10 sc10 rfl rfl tr10 bd10
  have A11 : DefAt K mg TT (ccOf N11 17 false) 11 "values_in" (topS 17) ["facts"] f11 fd11 := defAt_mk X G E11 sc11 rfl rfl tr11 bd11
  have A12 : DefAt K mg TT (ccOf N12 18 false) 12 "put_in" (topS 18) ["facts", "told"] f12 fd12 := defAt_mk X G E12 sc12 rfl rfl tr12 bd12
  have A13 : DefAt K mg TT (ccOf N13 20 false) 13 "_law_bag" (topS 20) ["script"] f13 fd13 := defAt_mk X G E13 sc13 rfl rfl tr13 bd13
  have A14 : DefAt K mg TT (ccOf N14 21 false) 14 "_law_take" (topS 21) ["bag", "many"] f14 fd14 := defAt_mk X G E14 sc14 rfl rfl tr14 bd14
  have A15 : DefAt K mg TT (ccOf N15 22 false) 15 "_law_some" (topS 22) ["bag", "things"] f15 fd15 := defAt_mk X G E15 sc15 rfl rfl tr15 bd15
  have A16 : DefAt K mg TT (ccOf N16 23 false) 16 "_law_alike" (topS 23) ["found", "due"] f16 fd16 := defAt_mk X G E16 sc16 rfl rfl tr16 bd16
  have A17 : DefAt K mg TT (ccOf N17 24 false) 17 "_law_any_name" (topS 24) ["bag"] f17 fd17 := defAt_mk X G E17 sc17 rfl rfl tr17 bd17
  have A18 : DefAt K mg TT (ccOf N18 25 false) 18 "_law_any_value" (topS 25) ["bag"] f18 fd18 := defAt_mk X G E18 sc18 rfl rfl tr18 bd18
  have A19 : DefAt K mg TT (ccOf N19 26 false) 19 "_law_any_term" (topS 26) ["bag"] f19 fd19 := defAt_mk X G E19 sc19 rfl rfl tr19 bd19
  have A20 : DefAt K mg TT (ccOf N20 27 false) 20 "_law_any_facts" (topS 27) ["bag", "is_plain"] f20 fd20 := defAt_mk X G E20 sc20 rfl rfl tr20 bd20
  have A21 : DefAt K mg TT (ccOf N21 28 false) 21 "_law_any_telling" (topS 28) ["bag"] f21 fd21 := defAt_mk X G E21 sc21 rfl rfl tr21 bd21
  have A22 : DefAt K mg TT (ccOf N22 29 false) 22 "_law_key" (topS 29) ["term"] f22 fd22 := defAt_mk X G E22 sc22 rfl rfl tr22 bd22
  have A23 : DefAt K mg TT (ccOf N23 30 false) 23 "_law_fact_key" (topS 30) ["fact"] f23 fd23 := defAt_mk X G E23 sc23 rfl rfl tr23 bd23
  have A24 : DefAt K mg TT (ccOf N24 31 false) 24 "_law_telling_key" (topS 31) ["telling"] f24 fd24 := defAt_mk X G E24 sc24 rfl rfl tr24 bd24
  have A25 : DefAt K mg TT (ccOf N25 32 true) 25 "_law_sorted_facts" (topS 32) ["facts"] f25 fd25 := defAt_mk X G E25 sc25 rfl rfl tr25 bd25
  have A26 : DefAt K mg TT (ccOf N26 33 true) 26 "_law_sorted_tellings" (topS 33) ["tellings"] f26 fd26 := defAt_mk X G E26 sc26 rfl rfl tr26 bd26
  have A27 : DefAt K mg TT (ccOf N27 34 false) 27 "_law_do_ascend" (topS 34) ["facts"] f27 fd27 := defAt_mk X G E27 sc27 rfl rfl tr27 bd27
  have A28 : DefAt K mg TT (ccOf N28 35 false) 28 "_law_vars" (topS 35) ["facts"] f28 fd28 := defAt_mk X G E28 sc28 rfl rfl tr28 bd28
  have A29 : DefAt K mg TT (ccOf N29 36 true) 29 "_law_sorted_terms" (topS 36) ["terms"] f29 fd29 := defAt_mk X G E29 sc29 rfl rfl tr29 bd29
  have A30 : DefAt K mg TT (ccOf N30 37 false) 30 "_law_put" (topS 37) ["facts", "told"] f30 fd30 := defAt_mk X G E30 sc30 rfl rfl tr30 bd30
  have A31 : DefAt K mg TT (ccOf N31 38 false) 31 "law" (topS 38) ["script"] f31 fd31 := defAt_mk X G E31 sc31 rfl rfl tr31 bd31
  obtain rfl : f31 = fa := by
    have e := A31.mgf.symm.trans hfa
    cases e; rfl
  refine ⟨fd31, [(c25, P25), (c26, P26), (c29, P29)], (tabT P25 P26 P29), ?_, ?_, ?_, ?_, ?_, fun base KB GB TB => ?_⟩
  · exact List.forall_mem_cons.mpr ⟨hts _ L25.mem, List.forall_mem_cons.mpr ⟨hts _ L26.mem, List.forall_mem_cons.mpr ⟨hts _ L29.mem, fun _ hh => nomatch hh⟩⟩⟩
  · exact List.forall_mem_cons.mpr ⟨L25.no, List.forall_mem_cons.mpr ⟨L26.no, List.forall_mem_cons.mpr ⟨L29.no, fun _ hh => nomatch hh⟩⟩⟩
  · exact List.forall_mem_cons.mpr ⟨PySem.W.codeHd_of_K X L25.hd, List.forall_mem_cons.mpr ⟨PySem.W.codeHd_of_K X L26.hd, List.forall_mem_cons.mpr ⟨PySem.W.codeHd_of_K X L29.hd, fun _ hh => nomatch hh⟩⟩⟩
  · exact List.forall_mem_cons.mpr ⟨by simp, List.forall_mem_cons.mpr ⟨by simp, List.forall_mem_cons.mpr ⟨by simp, fun _ hh => nomatch hh⟩⟩⟩
  · intro s u
    obtain ⟨oc, od, kV, doc, pm, an, cdv, ct, osl, e, _⟩ := E31.fn.ex
    rw [e]
    exact .of_eq (bd31 kV doc pm an cdv ct [u] rfl)
  · have PO : ProgOk K mg base (tabT P25 P26 P29) TT fnsT consT := by
      refine ⟨blt_ok X G hb, cons_ok X G hc, fun x i q => ?_⟩
      have all : ∀ e ∈ fnsT, ∃ cc st ps f fd, DefAt K mg TT cc e.2 e.1 st ps f fd ∧ cc.fns = fnsT ∧ cc.cons = consT ∧ (cc.lam = true → LamOk base mg (tabT P25 P26 P29) e.1 fd) := by
        exact List.forall_mem_cons.mpr ⟨⟨_, _, _, _, _, A0, rfl, rfl, fun z => by cases z⟩, List.forall_mem_cons.mpr ⟨⟨_, _, _, _, _, A1, rfl, rfl, fun z => by cases z⟩, List.forall_mem_cons.mpr ⟨⟨_, _, _, _, _, A2, rfl, rfl, fun z => by cases z⟩, List.forall_mem_cons.mpr ⟨⟨_, _, _, _, _, A3, rfl, rfl, fun z => by cases z⟩, List.forall_mem_cons.mpr ⟨⟨_, _, _, _, _, A4, rfl, rfl, fun z => by cases z⟩, List.forall_mem_cons.mpr ⟨⟨_, _, _, _, _, A5, rfl, rfl, fun z => by cases z⟩, List.forall_mem_cons.mpr ⟨⟨_, _, _, _, _, A6, rfl, rfl, fun z => by cases z⟩, List.forall_mem_cons.mpr ⟨⟨_, _, _, _, _, A7, rfl, rfl, fun z => by cases z⟩, List.forall_mem_cons.mpr ⟨⟨_, _, _, _, _, A8, rfl, rfl, fun z => by cases z⟩, List.forall_mem_cons.mpr ⟨⟨_, _, _, _, _, A9, rfl, rfl, fun z => by cases z⟩, List.forall_mem_cons.mpr ⟨⟨_, _, _, _, _, A10, rfl, rfl, fun z => by cases z⟩, List.forall_mem_cons.mpr ⟨⟨_, _, _, _, _, A11, rfl, rfl, fun z => by cases z⟩, List.forall_mem_cons.mpr ⟨⟨_, _, _, _, _, A12, rfl, rfl, fun z => by cases z⟩, List.forall_mem_cons.mpr ⟨⟨_, _, _, _, _, A13, rfl, rfl, fun z => by cases z⟩, List.forall_mem_cons.mpr ⟨⟨_, _, _, _, _, A14, rfl, rfl, fun z => by cases z⟩, List.forall_mem_cons.mpr ⟨⟨_, _, _, _, _, A15, rfl, rfl, fun z => by cases z⟩, List.forall_mem_cons.mpr ⟨⟨_, _, _, _, _, A16, rfl, rfl, fun z => by cases z⟩, List.forall_mem_cons.mpr ⟨⟨_, _, _, _, _, A17, rfl, rfl, fun z => by cases z⟩, List.forall_mem_cons.mpr ⟨⟨_, _, _, _, _, A18, rfl, rfl, fun z => by cases z⟩, List.forall_mem_cons.mpr ⟨⟨_, _, _, _, _, A19, rfl, rfl, fun z => by cases z⟩, List.forall_mem_cons.mpr ⟨⟨_, _, _, _, _, A20, rfl, rfl, fun z => by cases z⟩, List.forall_mem_cons.mpr ⟨⟨_, _, _, _, _, A21, rfl, rfl, fun z => by cases z⟩, List.forall_mem_cons.mpr ⟨⟨_, _, _, _, _, A22, rfl, rfl, fun z => by cases z⟩, List.forall_mem_cons.mpr ⟨⟨_, _, _, _, _, A23, rfl, rfl, fun z => by cases z⟩, List.forall_mem_cons.mpr ⟨⟨_, _, _, _, _, A24, rfl, rfl, fun z => by cases z⟩, List.forall_mem_cons.mpr ⟨⟨_, _, _, _, _, A25, rfl, rfl, fun _ => lamOk_mk L25 (TB (c25, P25) (by simp)) hnd (by simp [tabT])⟩, List.forall_mem_cons.mpr ⟨⟨_, _, _, _, _, A26, rfl, rfl, fun _ => lamOk_mk L26 (TB (c26, P26) (by simp)) hnd (by simp [tabT])⟩, List.forall_mem_cons.mpr ⟨⟨_, _, _, _, _, A27, rfl, rfl, fun z => by cases z⟩, List.forall_mem_cons.mpr ⟨⟨_, _, _, _, _, A28, rfl, rfl, fun z => by cases z⟩, List.forall_mem_cons.mpr ⟨⟨_, _, _, _, _, A29, rfl, rfl, fun _ => lamOk_mk L29 (TB (c29, P29) (by simp)) hnd (by simp [tabT])⟩, List.forall_mem_cons.mpr ⟨⟨_, _, _, _, _, A30, rfl, rfl, fun z => by cases z⟩, List.forall_mem_cons.mpr ⟨⟨_, _, _, _, _, A31, rfl, rfl, fun z => by cases z⟩, fun _ hh => nomatch hh⟩⟩⟩⟩⟩⟩⟩⟩⟩⟩⟩⟩⟩⟩⟩⟩⟩⟩⟩⟩⟩⟩⟩⟩⟩⟩⟩⟩⟩⟩⟩⟩
      exact all (x, i) (PySem.mem_of_lookup q)
    exact def_next PO (fun x i q => prog_sound PO k x i q) A31 rfl rfl fun z => by cases z
end
end K01
end
section
set_option Elab.async false
set_option linter.all false
set_option autoImplicit false
set_option maxRecDepth 100000
/-! Plain laws about the data layer, part a: evaluation at the level of M. -/
namespace DL
open PySem
section
variable {α β γ : Type}
theorem M.ret_bind (a : α) (f : α → M β) : (M.ret a).bind f = f a := rfl
theorem M.bind_assoc (m : M α) (f : α → M β) (g : β → M γ) : (m.bind f).bind g = m.bind fun x => (f x).bind g := by
  funext h
  unfold M.bind
  cases m h <;> rfl
theorem M.opt_some (a : α) : M.opt (some a) = M.ret a := rfl
theorem M.rd_const (a : α) : (M.rd fun _ => some a) = M.ret a := rfl
theorem quiet_ret (a : α) : quiet (M.ret a) = M.ret a := rfl
theorem M.at_bind {m : M α} {f : α → M β} {h h' : Store} {a : α} (e : m h = .ok a h') : m.bind f h = f a h' := by unfold M.bind; rw [e]
theorem M.rd_at {f : Store → Option α} {h : Store} {a : α} (e : f h = some a) : M.rd f h = .ok a h := by unfold M.rd; rw [e]
theorem quiet_at {m : M α} {h h' : Store} {a : α} (e : m h = .ok a h') : quiet m h = .ok a h' := by unfold quiet; rw [e]
theorem call_step {T : List Fn} {i : Nat} {f : Fn} (h : T[i]? = some f) (k : Nat) (as : List D) : callN T (k + 1) i as = runFn (callN T k) f as := by
  funext s
  show (match T[i]? with | some fn => runFn (callN T k) fn as | none => M.no) s = _
  rw [h]
theorem run_at {C : Nat → List D → M D} {n p : Nat} {b : Sms} {as : List D} (h : as.length = p) : runFn C ⟨n, p, b⟩ as = (denSs C b (as.map some ++ List.replicate (n - p) none)).bind fun o => match o with
    | .nx _ => .ret (.dat .none)
    | .rt d => .ret d := by
  unfold runFn
  exact if_pos h
end
theorem join_ss {α : Type} (a : α) : Option.join (some (some a)) = some a := rfl
/-! equations -/
section
variable (C : Nat → List D → M D) (ρ : Rho)
theorem den_c (d : PyData) : den C (.c d) ρ = (M.ret (.dat d)) := rfl
theorem den_v (i : Nat) : den C (.v i) ρ = (M.opt (ρ[i]?.join)) := rfl
theorem den_g (x : Str) (d : PyData) : den C (.g x d) ρ = (M.ret (.dat d)) := rfl
theorem den_tup (es : Exs) : den C (.tup es) ρ = ((dens C es ρ).bind fun ds => if szOk ds.length then .opt ((datAll ds).map fun xs => .dat (.tuple xs)) else .no) := rfl
theorem den_lst (es : Exs) : den C (.lst es) ρ = ((dens C es ρ).bind fun ds => if szOk ds.length then .opt ((datAll ds).map fun xs => .dat (.list xs)) else .no) := rfl
theorem den_bin (o : Bop) (a b : Ex) : den C (.bin o a b) ρ = ((den C a ρ).bind fun x => (den C b ρ).bind fun y => .rd fun h => (opBin o h x y).map .dat) := rfl
theorem den_neg (a : Ex) : den C (.neg a) ρ = ((den C a ρ).bind fun x => .rd fun h => (asInt (rdD h x)).map fun i => .dat (.int (-i))) := rfl
theorem den_cmp (o : Cop) (a b : Ex) : den C (.cmp o a b) ρ = ((den C a ρ).bind fun x => (den C b ρ).bind fun y => .rd fun h => (opCmp o h x y).map fun b => .dat (.bool b)) := rfl
theorem den_and (a b : Ex) : den C (.and a b) ρ = ((den C a ρ).bind fun x => (M.rd fun h => truD h x).bind fun k => if k = true then den C b ρ else .ret x) := rfl
theorem den_or (a b : Ex) : den C (.or a b) ρ = ((den C a ρ).bind fun x => (M.rd fun h => truD h x).bind fun k => if k = true then .ret x else den C b ρ) := rfl
theorem den_not (a : Ex) : den C (.not a) ρ = ((den C a ρ).bind fun x => (M.rd fun h => truD h x).bind fun k => .ret (.dat (.bool (!k)))) := rfl
theorem den_ite (c a b : Ex) : den C (.ite c a b) ρ = ((den C c ρ).bind fun x => (M.rd fun h => truD h x).bind fun k => if k = true then den C a ρ else den C b ρ) := rfl
theorem den_ix (a b : Ex) : den C (.ix a b) ρ = ((den C a ρ).bind fun x => (den C b ρ).bind fun y => .rd fun h => opIx h x y) := rfl
theorem den_sl (a : Ex) (lo hi : Ox) : den C (.sl a lo hi) ρ = ((den C a ρ).bind fun x => (deno C lo ρ).bind fun l => (deno C hi ρ).bind fun u => .rd fun h => (opSl h x l u).map .dat) := rfl
theorem den_call (f : Nat) (es : Exs) : den C (.call f es) ρ = ((dens C es ρ).bind fun ds => C f ds) := rfl
theorem den_bi (b : Bi) (es : Exs) : den C (.bi b es) ρ = ((dens C es ρ).bind fun ds => .rd fun h => opBi b h ds) := rfl
theorem den_isi (e : Ex) (t : Ty) : den C (.isi e t) ρ = ((den C e ρ).bind fun x => .opt ((opIsi t x).map fun b => .dat (.bool b))) := rfl
theorem den_get2 (o k d : Ex) : den C (.get2 o k d) ρ = ((den C o ρ).bind fun x => (den C k ρ).bind fun y => (den C d ρ).bind fun z => match x, y with
      | .dic kvs, .dat k => if keyOk8 k then (match dgetD kvs k with | some v => .ret (.dat v) | none => .ret z) else .no
      | _, _ => .no) := rfl
theorem den_srtf (e : Ex) (f : Nat) : den C (.srtf e f) ρ = ((den C e ρ).bind fun x => (M.rd fun h => srtOf h x).bind fun xs => (quiet (mapM' (fun d => C f [.dat d]) xs)).bind fun ks => if sortOk ks then .ret (.dat (.list (sortD ks xs))) else .no) := rfl
theorem den_srtl (e b : Ex) : den C (.srtl e b) ρ = ((den C e ρ).bind fun x => (M.rd fun h => srtOf h x).bind fun xs => (quiet (mapM' (fun d => den C b [some (.dat d)]) xs)).bind fun ks => if sortOk ks then .ret (.dat (.list (sortD ks xs))) else .no) := rfl
theorem dens_nil : dens C .nil ρ = M.ret [] := rfl
theorem dens_cons (e : Ex) (es : Exs) : dens C (.cons e es) ρ = (den C e ρ).bind fun x => (dens C es ρ).bind fun xs => .ret (x :: xs) := rfl
theorem deno_none : deno C .none ρ = M.ret none := rfl
theorem deno_some (e : Ex) : deno C (.some e) ρ = (den C e ρ).bind fun x => .rd fun h => (asInt (rdD h x)).map some := rfl
theorem denc_none : denc C .none ρ = M.ret true := rfl
theorem denc_some (e : Ex) : denc C (.some e) ρ = (den C e ρ).bind fun x => .rd fun h => truD h x := rfl
theorem denIt_seq (e : Ex) : denIt C (.seq e) ρ = (den C e ρ).bind fun x => .rd fun h => itemsD h x := rfl
theorem denS_set (i : Nat) (e : Ex) : denS C (.set i e) ρ = (den C e ρ).bind fun x => .ret (.nx (ρ.set i (some x))) := rfl
theorem denS_par (i j : Nat) (a b : Ex) : denS C (.par i j a b) ρ = (den C a ρ).bind fun x => (den C b ρ).bind fun y => .ret (.nx ((ρ.set i (some x)).set j (some y))) := rfl
theorem denS_ret (e : Ex) : denS C (.ret e) ρ = (den C e ρ).bind fun x => .ret (.rt x) := rfl
theorem denS_ex (e : Ex) : denS C (.ex e) ρ = (den C e ρ).bind fun _ => .ret (.nx ρ) := rfl
theorem denS_ite (c : Ex) (a b : Sms) : denS C (.ite c a b) ρ = (den C c ρ).bind fun x => (M.rd fun h => truD h x).bind fun k => if k = true then denSs C a ρ else denSs C b ρ := rfl
theorem denSs_nil : denSs C .nil ρ = M.ret (.nx ρ) := rfl
theorem denSs_cons (s : Sm) (r : Sms) : denSs C (.cons s r) ρ = (denS C s ρ).bind fun o => match o with
    | .nx ρ' => denSs C r ρ'
    | .rt d => .ret (.rt d) := rfl
end
/-! operators on data -/
section
variable (h : Store)
theorem rdD_dat (d : PyData) : rdD h (.dat d) = some d := rfl
theorem tru_b (b : Bool) : truD h (.dat (.bool b)) = some b := rfl
theorem tru_i (i : Int) : truD h (.dat (.int i)) = some (i != 0) := rfl
theorem tru_l (xs : List PyData) : truD h (.dat (.list xs)) = some (!xs.isEmpty) := rfl
theorem add_i (i j : Int) : opBin .add h (.dat (.int i)) (.dat (.int j)) = some (.int (i + j)) := rfl
theorem sub_i (i j : Int) : opBin .sub h (.dat (.int i)) (.dat (.int j)) = some (.int (i - j)) := rfl
theorem mul_i (i j : Int) : opBin .mul h (.dat (.int i)) (.dat (.int j)) = if small64 i || small64 j then some (.int (i * j)) else none := rfl
theorem fdiv_i (i j : Int) : opBin .fdiv h (.dat (.int i)) (.dat (.int j)) = if decide (0 < j) && decide (j < 1073741824) then some (.int (i / j)) else none := rfl
theorem mod_i (i j : Int) : opBin .mod h (.dat (.int i)) (.dat (.int j)) = if decide (0 < j) then some (.int (i % j)) else none := rfl
theorem add_t (a b : List PyData) : opBin .add h (.dat (.tuple a)) (.dat (.tuple b)) = if szOk (a.length + b.length) then some (.tuple (a ++ b)) else none := rfl
theorem add_l (a b : List PyData) : opBin .add h (.dat (.list a)) (.dat (.list b)) = if szOk (a.length + b.length) then some (.list (a ++ b)) else none := rfl
theorem cmp_eq (a b : PyData) : opCmp .eq h (.dat a) (.dat b) = if eqOk a b then some (PyData.eqv a b) else none := rfl
theorem cmp_ne (a b : PyData) : opCmp .ne h (.dat a) (.dat b) = if eqOk a b then some (!PyData.eqv a b) else none := rfl
theorem cmp_lt (a b : PyData) : opCmp .lt h (.dat a) (.dat b) = if PySem.W.alike a b && decide (a.depth ≤ 64) && notNone a then some (PySem.W.dataLt a b) else none := rfl
theorem cmp_ge (i j : Int) : opCmp .ge h (.dat (.int i)) (.dat (.int j)) = some (decide (j ≤ i)) := rfl
theorem cmp_gt (i j : Int) : opCmp .gt h (.dat (.int i)) (.dat (.int j)) = some (decide (j < i)) := rfl
theorem ix_l (xs : List PyData) (i : Int) : opIx h (.dat (.list xs)) (.dat (.int i)) = (L2.atI xs i).map .dat := rfl
theorem ix_t (xs : List PyData) (i : Int) : opIx h (.dat (.tuple xs)) (.dat (.int i)) = (L2.atI xs i).map .dat := rfl
theorem ix_m (l : Nat) (i : Int) : opIx h (.mut l) (.dat (.int i)) = (lstAt h l).bind fun ds => L2.atI ds i := rfl
theorem sl_l (xs : List PyData) (lo hi : Option Int) : opSl h (.dat (.list xs)) lo hi = some (.list (cutD xs lo hi)) := rfl
theorem bi_tuple_l (xs : List PyData) : opBi .tuple h [.dat (.list xs)] = some (.dat (.tuple xs)) := rfl
theorem bi_list_t (xs : List PyData) : opBi .list h [.dat (.tuple xs)] = some (.dat (.list xs)) := rfl
theorem bi_list_l (xs : List PyData) : opBi .list h [.dat (.list xs)] = some (.dat (.list xs)) := rfl
theorem bi_len_l (xs : List PyData) : opBi .len h [.dat (.list xs)] = some (.dat (.int xs.length)) := rfl
theorem bi_len_t (xs : List PyData) : opBi .len h [.dat (.tuple xs)] = some (.dat (.int xs.length)) := rfl
theorem bi_int_i (i : Int) : opBi .int h [.dat (.int i)] = some (.dat (.int i)) := rfl
theorem items_l (xs : List PyData) : itemsD h (.dat (.list xs)) = some (xs.map .dat) := rfl
theorem items_t (xs : List PyData) : itemsD h (.dat (.tuple xs)) = some (xs.map .dat) := rfl
theorem isi_tt (xs : List PyData) : opIsi .tuple (.dat (.tuple xs)) = some true := rfl
theorem isi_it (i : Int) : opIsi .tuple (.dat (.int i)) = some false := rfl
theorem isi_st (s : Str) : opIsi .tuple (.dat (.str s)) = some false := rfl
theorem asInt_i (i : Int) : asInt (some (.int i)) = some i := rfl
theorem datAll_nil : datAll [] = some [] := rfl
theorem datAll_cons (d : PyData) (r : List D) : datAll (.dat d :: r) = (datAll r).map (d :: ·) := rfl
theorem shaped_i (i : Int) : SeqAt.shaped (.int i) = true := rfl
end
theorem at_0 {α : Type} (a : α) (r : List α) : L2.atI (a :: r) 0 = some a := by
  unfold L2.atI L2.ixN
  rw [if_pos (by omega), if_pos (by simp only [List.length_cons]; omega)]; rfl
theorem at_1 {α : Type} (a b : α) (r : List α) : L2.atI (a :: b :: r) 1 = some b := by
  unfold L2.atI L2.ixN
  rw [if_pos (by omega), if_pos (by simp only [List.length_cons]; omega)]; rfl
theorem sz0 : szOk 0 = true := rfl
theorem sz1 : szOk (0 + 1) = true := rfl
theorem sz2 : szOk (0 + 1 + 1) = true := rfl
theorem sz3 : szOk (0 + 1 + 1 + 1) = true := rfl
theorem sz4 : szOk (0 + 1 + 1 + 1 + 1) = true := rfl
theorem sz5 : szOk (0 + 1 + 1 + 1 + 1 + 1) = true := rfl
theorem sz7 : szOk (0 + 1 + 1 + 1 + 1 + 1 + 1 + 1) = true := rfl
theorem sz8 : szOk (0 + 1 + 1 + 1 + 1 + 1 + 1 + 1 + 1) = true := rfl
theorem sz6 : szOk (0 + 1 + 1 + 1 + 1 + 1 + 1) = true := rfl

end DL
end
section
set_option Elab.async false
set_option linter.all false
set_option autoImplicit false
set_option maxRecDepth 100000
/-! Plain laws about the data layer, part b: data in order. -/
namespace DL
open PySem
/-- no truths, no dicts: equal is the same -/
def clean : PyData → Bool
  | .none => true
  | .int _ => true
  | .str _ => true
  | .list xs => cleans xs
  | .tuple xs => cleans xs
  | _ => false
where cleans : List PyData → Bool
  | [] => true
  | x :: r => clean x && cleans r
mutual
theorem eqv_clean : ∀ {a b : PyData}, clean a = true → clean b = true → PyData.eqv a b = true → a = b
  | .none, b, _, hb, e => by cases b <;> first | rfl | cases e | cases hb
  | .int i, b, _, hb, e => by
    cases b with
    | int j => exact congrArg _ (eq_of_beq (show (i == j) = true from e))
    | bool _ => cases hb
    | _ => cases e
  | .str x, b, _, hb, e => by
    cases b with
    | str y => exact congrArg _ (eq_of_beq (show (x == y) = true from e))
    | _ => cases e
  | .list xs, b, ha, hb, e => by
    cases b with
    | list ys => exact congrArg _ (eqvs_clean (show clean.cleans xs = true from ha) (show clean.cleans ys = true from hb) (show PyData.eqvAll xs ys = true from e))
    | _ => cases e
  | .tuple xs, b, ha, hb, e => by
    cases b with
    | tuple ys => exact congrArg _ (eqvs_clean (show clean.cleans xs = true from ha) (show clean.cleans ys = true from hb) (show PyData.eqvAll xs ys = true from e))
    | _ => cases e
  | .bool _, _, ha, _, _ => by cases ha
  | .dict _, _, ha, _, _ => by cases ha
theorem eqvs_clean : ∀ {xs ys : List PyData}, clean.cleans xs = true → clean.cleans ys = true → PyData.eqvAll xs ys = true → xs = ys
  | [], [], _, _, _ => rfl
  | x :: xs, y :: ys, ha, hb, e => by
    have ha' : (clean x && clean.cleans xs) = true := ha
    have hb' : (clean y && clean.cleans ys) = true := hb
    have e' : (PyData.eqv x y && PyData.eqvAll xs ys) = true := e
    rw [Bool.and_eq_true] at ha' hb' e'
    rw [eqv_clean ha'.1 hb'.1 e'.1, eqvs_clean ha'.2 hb'.2 e'.2]
  | [], _ :: _, _, _, e => by cases e
  | _ :: _, [], _, _, e => by cases e
end
mutual
theorem eqv_self : ∀ {a : PyData}, clean a = true → PyData.eqv a a = true
  | .none, _ => rfl
  | .int i, _ => beq_self_eq_true i
  | .str x, _ => beq_self_eq_true x
  | .list xs, h => eqvs_self (show clean.cleans xs = true from h)
  | .tuple xs, h => eqvs_self (show clean.cleans xs = true from h)
  | .bool _, h => by cases h
  | .dict _, h => by cases h
theorem eqvs_self : ∀ {xs : List PyData}, clean.cleans xs = true → PyData.eqvAll xs xs = true
  | [], _ => rfl
  | x :: xs, h => by
    have h' : (clean x && clean.cleans xs) = true := h
    rw [Bool.and_eq_true] at h'
    show (PyData.eqv x x && PyData.eqvAll xs xs) = true
    rw [eqv_self h'.1, eqvs_self h'.2]; rfl
end
theorem eqv_iff {a b : PyData} (ha : clean a = true) (hb : clean b = true) : PyData.eqv a b = true ↔ a = b := ⟨eqv_clean ha hb, fun e => by rw [e]; exact eqv_self hb⟩
theorem cleans_all : ∀ {xs : List PyData}, clean.cleans xs = true ↔ ∀ x ∈ xs, clean x = true
  | [] => Iff.intro (fun _ x h => (by cases h)) fun _ => rfl
  | x :: xs => by
    show (clean x && clean.cleans xs) = true ↔ _
    rw [Bool.and_eq_true, cleans_all]
    simp
/-- keys that stand side by side are the same -/
theorem key_tri {x y : PyData} (h : PySem.W.alike x y = true) (h1 : PySem.W.dataLt x y = false) (h2 : PySem.W.dataLt y x = false) : PyData.eqv x y = true := by
  have e : PySem.W.keyToks x = PySem.W.keyToks y := (PyProof.Rows.lex_total (O := PyProof.Rows.itemOrd) _ _ h1 h2)
  cases q : PyData.eqv x y with
  | true => rfl
  | false =>
    have z := (PySem.W.toks_eqv x y h).2 q [] [.inl 0]
    rw [e, PySem.W.lex_pre] at z
    have i : PyProof.Rows.lexLt PyProof.Rows.itemOrd (PySem.W.keyToks y) (PySem.W.keyToks y) = false := PyProof.Rows.lex_irrefl _
    rw [i] at z
    cases z
theorem key_trans {x y z : PyData} (h1 : PySem.W.dataLt x y = true) (h2 : PySem.W.dataLt y z = true) : PySem.W.dataLt x z = true := PyProof.Rows.lex_trans _ _ _ h1 h2
theorem key_irr (x : PyData) : PySem.W.dataLt x x = false := PyProof.Rows.lex_irrefl _
/-- an order of things by keys -/
structure Good (g : PyData → PyData) (G : PyData → Prop) : Prop where
  clean : ∀ x, G x → clean x = true
  alike : ∀ x y, G x → G y → PySem.W.alike (g x) (g y) = true
  dep : ∀ x, G x → (g x).depth ≤ 64 ∧ notNone (g x) = true
  inj : ∀ x y, G x → G y → PyData.eqv (g x) (g y) = true → x = y
section
variable {g : PyData → PyData} {G : PyData → Prop}
abbrev klt (g : PyData → PyData) (x y : PyData) : Bool := PySem.W.dataLt (g x) (g y)
theorem Good.tri (W : Good g G) {x y : PyData} (hx : G x) (hy : G y) (h1 : klt g x y = false) (h2 : klt g y x = false) : x = y := W.inj x y hx hy (key_tri (W.alike x y hx hy) h1 h2)
/-- two strictly ascending lists of the same members are one -/
theorem strict_one : ∀ {l m : List PyData}, l.Pairwise (fun a b => klt g a b = true) → m.Pairwise (fun a b => klt g a b = true) → (∀ x, x ∈ l ↔ x ∈ m) → l = m
  | [], [], _, _, _ => rfl
  | [], y :: m, _, _, h => absurd ((h y).mpr List.mem_cons_self) (by simp)
  | x :: l, [], _, _, h => absurd ((h x).mp List.mem_cons_self) (by simp)
  | x :: l, y :: m, h1, h2, h => by
    rw [List.pairwise_cons] at h1 h2
    have asym : ∀ a b, klt g a b = true → klt g b a = true → False := fun a b p q => by
      have := key_trans p q
      rw [key_irr] at this; cases this
    have exy : x = y := by
      rcases List.mem_cons.mp ((h x).mp List.mem_cons_self) with e | e
      · exact e
      · rcases List.mem_cons.mp ((h y).mpr List.mem_cons_self) with e' | e'
        · exact e'.symm
        · exact (asym _ _ (h1.1 y e') (h2.1 x e)).elim
    subst exy
    rw [strict_one h1.2 h2.2 fun z => ?_]
    have hz := h z
    rw [List.mem_cons, List.mem_cons] at hz
    constructor
    · intro m1
      rcases hz.mp (.inr m1) with e | e
      · subst e
        have := h1.1 z m1
        rw [show klt g z z = false from key_irr _] at this; cases this
      · exact e
    · intro m1
      rcases hz.mpr (.inr m1) with e | e
      · subst e
        have := h2.1 z m1
        rw [show klt g z z = false from key_irr _] at this; cases this
      · exact e
/-- sorted by the keys -/
theorem sortD_eq (xs : List PyData) : sortD (xs.map g) xs = xs.mergeSort fun a b => !klt g b a := by
  unfold sortD
  have e1 : (xs.map g).zip xs = xs.map fun x => (g x, x) := by
    induction xs with
    | nil => rfl
    | cons a l ih => rw [List.map_cons, List.zip_cons_cons, ih]; rfl
  rw [e1, PySem.W.sort_maps (s := fun a b => !klt g b a) (fun p : PyData × PyData => p.2) (fun a ha b hb => ?_), List.map_map]
  · show (xs.map fun x => x).mergeSort _ = _
    rw [List.map_id']
  · obtain ⟨x, _, rfl⟩ := List.mem_map.mp ha
    obtain ⟨y, _, rfl⟩ := List.mem_map.mp hb
    rfl
theorem kle_total : PySem.W.TotalLe fun a b : PyData => !klt g b a := PySem.W.sortLe_total (PyProof.Rows.listOrd PyProof.Rows.itemOrd) false fun d : PyData => PySem.W.keyToks (g d)
theorem sortD_mem (xs : List PyData) (x : PyData) : x ∈ sortD (xs.map g) xs ↔ x ∈ xs := by
  rw [sortD_eq]
  exact (List.mergeSort_perm xs _).mem_iff
theorem sortD_le (xs : List PyData) : (sortD (xs.map g) xs).Pairwise fun a b => klt g b a = false := by
  rw [sortD_eq]
  refine (PySem.W.sort_pairwise kle_total xs).imp fun {a b} h => ?_
  simpa using h
theorem sortD_len (xs : List PyData) : (sortD (xs.map g) xs).length = xs.length := by
  rw [sortD_eq, List.length_mergeSort]
/-- no member twice -/
theorem sput_mem {G : PyData → Prop} (hG : ∀ x, G x → clean x = true) : ∀ (xs acc : List PyData), (∀ x ∈ xs, G x) → (∀ x ∈ acc, G x) → (∀ x, x ∈ xs.foldl sput acc ↔ x ∈ acc ∨ x ∈ xs) ∧ (acc.Nodup → (xs.foldl sput acc).Nodup)
  | [], acc, _, _ => ⟨fun x => by simp, fun h => h⟩
  | k :: xs, acc, h1, h2 => by
    have hk := h1 k List.mem_cons_self
    have any : (acc.any fun x => PyData.eqv x k) = true ↔ k ∈ acc := by
      rw [List.any_eq_true]
      constructor
      · rintro ⟨x, hx, e⟩
        rw [← eqv_clean (hG x (h2 x hx)) (hG k hk) e]; exact hx
      · exact fun m => ⟨k, m, eqv_self (hG k hk)⟩
    rw [List.foldl_cons]
    by_cases m : k ∈ acc
    · have e : sput acc k = acc := by unfold sput; rw [if_pos (any.mpr m)]
      rw [e]
      obtain ⟨p1, p2⟩ := sput_mem hG xs acc (fun x hx => h1 x (List.mem_cons_of_mem _ hx)) h2
      refine ⟨fun x => ?_, p2⟩
      rw [p1, List.mem_cons]
      constructor
      · rintro (h | h)
        · exact .inl h
        · exact .inr (.inr h)
      · rintro (h | h | h)
        · exact .inl h
        · exact .inl (by rw [h]; exact m)
        · exact .inr h
    · have e : sput acc k = acc ++ [k] := by unfold sput; rw [if_neg fun z => m (any.mp z)]
      rw [e]
      obtain ⟨p1, p2⟩ := sput_mem hG xs (acc ++ [k]) (fun x hx => h1 x (List.mem_cons_of_mem _ hx)) (fun x hx => by
        rcases List.mem_append.mp hx with q | q
        · exact h2 x q
        · rw [List.mem_singleton.mp q]; exact hk)
      refine ⟨fun x => ?_, fun nd => p2 ?_⟩
      · rw [p1, List.mem_cons, List.mem_append, List.mem_singleton, or_assoc]
      · rw [List.nodup_append]
        refine ⟨nd, by simp, fun a ha b hb => ?_⟩
        rw [List.mem_singleton.mp hb]
        exact fun z => m (by rw [← z]; exact ha)
def dd (xs : List PyData) : List PyData := xs.foldl sput []
/-- once each, sorted -/
def ascL (g : PyData → PyData) (xs : List PyData) : List PyData := sortD ((dd xs).map g) (dd xs)
theorem dd_mem (W : Good g G) {xs : List PyData} (h : ∀ x ∈ xs, G x) (x : PyData) : x ∈ dd xs ↔ x ∈ xs := by
  have := (sput_mem W.clean xs [] h (fun _ z => by cases z)).1 x
  show x ∈ xs.foldl sput [] ↔ _
  rw [this]; simp
theorem dd_nodup (W : Good g G) {xs : List PyData} (h : ∀ x ∈ xs, G x) : (dd xs).Nodup := (sput_mem W.clean xs [] h (fun _ z => by cases z)).2 List.nodup_nil
theorem ascL_mem (W : Good g G) {xs : List PyData} (h : ∀ x ∈ xs, G x) (x : PyData) : x ∈ ascL g xs ↔ x ∈ xs := by
  unfold ascL
  rw [sortD_mem, dd_mem W h]
theorem ascL_strict (W : Good g G) {xs : List PyData} (h : ∀ x ∈ xs, G x) : (ascL g xs).Pairwise fun a b => klt g a b = true := by
  have hd : ∀ x ∈ dd xs, G x := fun x hx => h x ((dd_mem W h x).mp hx)
  have nd : (ascL g xs).Nodup := by
    unfold ascL
    rw [sortD_eq]
    exact (List.mergeSort_perm _ _).nodup_iff.mpr (dd_nodup W h)
  have mem : ∀ x ∈ ascL g xs, G x := fun x hx => h x ((ascL_mem W h x).mp hx)
  have le : (ascL g xs).Pairwise fun a b => klt g b a = false := sortD_le _
  have both := List.pairwise_and_iff.mpr ⟨le, nd⟩
  refine (List.Pairwise.imp_of_mem (fun {a b} ha hb q => ?_) both)
  cases e : klt g a b with
  | true => rfl
  | false => exact absurd (W.tri (mem a ha) (mem b hb) e q.1) q.2
theorem nil_or_snoc {α : Type} : ∀ l : List α, l = [] ∨ ∃ ini z, l = ini ++ [z]
  | [] => .inl rfl
  | a :: l => by
    rcases nil_or_snoc l with rfl | ⟨ini, z, rfl⟩
    · exact .inr ⟨[], a, rfl⟩
    · exact .inr ⟨a :: ini, z, rfl⟩
/-- sorted, then no two of the same beside one another -/
def adjS (acc : List PyData) (x : PyData) : List PyData := if acc.isEmpty || (match acc.getLast? with | some y => !PyData.eqv y x | none => true) then acc ++ [x] else acc
theorem adj_strict (W : Good g G) : ∀ (xs acc : List PyData), (∀ x ∈ xs, G x) → (∀ x ∈ acc, G x) → (acc ++ xs).Pairwise (fun a b => klt g b a = false) → acc.Pairwise (fun a b => klt g a b = true) →
    (xs.foldl adjS acc).Pairwise (fun a b => klt g a b = true) ∧ ∀ x, x ∈ xs.foldl adjS acc ↔ x ∈ acc ∨ x ∈ xs
  | [], acc, _, _, _, h => ⟨h, fun x => by simp⟩
  | x :: xs, acc, h1, h2, h3, h4 => by
    have hx := h1 x List.mem_cons_self
    rw [List.foldl_cons]
    have h3' := List.pairwise_append.mp h3
    have below : ∀ a ∈ acc, klt g x a = false := fun a ha => h3'.2.2 a ha x List.mem_cons_self
    have rest : ∀ y ∈ xs, G y := fun y hy => h1 y (List.mem_cons_of_mem _ hy)
    by_cases c : (acc.isEmpty || (match acc.getLast? with | some y => !PyData.eqv y x | none => true)) = true
    · have e : adjS acc x = acc ++ [x] := by unfold adjS; rw [if_pos c]
      rw [e]
      have nx : ∀ a ∈ acc, klt g a x = true := by
        intro a ha
        cases q : klt g a x with
        | true => rfl
        | false =>
          exfalso
          have ea := W.tri (h2 a ha) hx q (below a ha)
          subst ea
          -- then it is the last one
          rcases nil_or_snoc acc with rfl | ⟨ini, z, rfl⟩
          · cases ha
          · rw [List.getLast?_append] at c
            have c' : PyData.eqv z a = false := by simpa using c
            rcases List.mem_append.mp ha with hi | hi
            · have l1 := (List.pairwise_append.mp h4).2.2 a hi z (List.mem_singleton.mpr rfl)
              have l2 := below z (List.mem_append_right _ (List.mem_singleton.mpr rfl))
              rw [l1] at l2; cases l2
            · rw [List.mem_singleton.mp hi, eqv_self (W.clean z (h2 z (List.mem_append_right _ (List.mem_singleton.mpr rfl))))] at c'
              cases c'
      obtain ⟨p1, p2⟩ := adj_strict W xs (acc ++ [x]) rest (fun y hy => by
        rcases List.mem_append.mp hy with q | q
        · exact h2 y q
        · rw [List.mem_singleton.mp q]; exact hx) (by rw [List.append_assoc]; exact h3) (List.pairwise_append.mpr ⟨h4, List.pairwise_singleton .., fun a ha b hb => by rw [List.mem_singleton.mp hb]; exact nx a ha⟩)
      refine ⟨p1, fun y => ?_⟩
      rw [p2, List.mem_append, List.mem_singleton, List.mem_cons, or_assoc]
    · have e : adjS acc x = acc := by unfold adjS; rw [if_neg c]
      rw [e]
      have hxa : x ∈ acc := by
        rcases nil_or_snoc acc with rfl | ⟨ini, z, rfl⟩
        · exact absurd rfl c
        · rw [List.getLast?_append] at c
          have c' : PyData.eqv z x = true := by simpa using c
          rw [← eqv_clean (W.clean z (h2 z (List.mem_append_right _ (List.mem_singleton.mpr rfl)))) (W.clean x hx) c']
          exact List.mem_append_right _ (List.mem_singleton.mpr rfl)
      have h5 : (acc ++ xs).Pairwise (fun a b => klt g b a = false) := h3.sublist (List.Sublist.append (List.Sublist.refl _) (List.sublist_cons_self x xs))
      obtain ⟨p1, p2⟩ := adj_strict W xs acc rest h2 h5 h4
      refine ⟨p1, fun y => ?_⟩
      rw [p2, List.mem_cons]
      constructor
      · rintro (h | h)
        · exact .inl h
        · exact .inr (.inr h)
      · rintro (h | h | h)
        · exact .inl h
        · exact .inl (by rw [h]; exact hxa)
        · exact .inr h
def adjL (g : PyData → PyData) (xs : List PyData) : List PyData := (sortD (xs.map g) xs).foldl adjS []
theorem adj_asc (W : Good g G) {xs : List PyData} (h : ∀ x ∈ xs, G x) : adjL g xs = ascL g xs := by
  have hs : ∀ x ∈ sortD (xs.map g) xs, G x := fun x hx => h x ((sortD_mem xs x).mp hx)
  obtain ⟨p1, p2⟩ := adj_strict W (sortD (xs.map g) xs) [] hs (fun _ z => by cases z) (by rw [List.nil_append]; exact sortD_le xs) List.Pairwise.nil
  refine strict_one p1 (ascL_strict W h) fun x => ?_
  show x ∈ (sortD (xs.map g) xs).foldl adjS [] ↔ _
  rw [p2, ascL_mem W h, sortD_mem]
  simp
/-- what is strictly ascending is its own -/
theorem asc_fix (W : Good g G) {xs : List PyData} (h : ∀ x ∈ xs, G x) : ascL g xs = xs ↔ xs.Pairwise fun a b => klt g a b = true :=
  ⟨fun e => by rw [← e]; exact ascL_strict W h, fun p => strict_one (ascL_strict W h) p fun x => ascL_mem W h x⟩
end
end DL
end
section
set_option Elab.async false
set_option linter.all false
set_option autoImplicit false
set_option maxRecDepth 100000
/-! Plain laws about the data layer, part c: comprehensions and sorting whose parts write nothing. -/
namespace DL
open PySem
section
variable {α : Type}
theorem loopC_ret {f : D → α → M α} {st : α → D → α} {I : Nat → α → Prop} : ∀ (xs : List D) (j : Nat) (acc : α), (∀ i x a, i < xs.length → x ∈ xs → I (j + i) a → f x a = .ret (st a x) ∧ I (j + i + 1) (st a x)) → I j acc → loopC f xs acc = .ret (xs.foldl st acc)
  | [], _, _, _, _ => rfl
  | x :: xs, j, acc, h, hI => by
    obtain ⟨e1, e2⟩ := h 0 x acc (Nat.succ_pos _) List.mem_cons_self hI
    show (f x acc).bind (fun acc' => loopC f xs acc') = _
    rw [e1, M.ret_bind]
    exact loopC_ret xs (j + 1) _ (fun i y a hi hy hIa => by
      have := h (i + 1) y a (Nat.succ_lt_succ hi) (List.mem_cons_of_mem _ hy) (by rw [show j + (i + 1) = j + 1 + i by omega]; exact hIa)
      rw [show j + (i + 1) = j + 1 + i by omega] at this
      exact this) e2
theorem mapM_ret {f : PyData → M D} {g : PyData → PyData} : ∀ xs : List PyData, (∀ x ∈ xs, f x = .ret (.dat (g x))) → mapM' f xs = .ret (xs.map g)
  | [], _ => rfl
  | x :: xs, h => by
    show ((f x).bind fun y => match y with | .dat d => (mapM' f xs).bind fun ds => .ret (d :: ds) | _ => .no) = _
    rw [h x List.mem_cons_self, M.ret_bind]
    show (mapM' f xs).bind (fun ds => .ret (g x :: ds)) = _
    rw [mapM_ret xs fun y hy => h y (List.mem_cons_of_mem _ hy)]; rfl
end
section
variable {C : Nat → List D → M D} {ρ : Rho} {own : List Nat} {tg : Tg} {it : It} {cond : Ox} {e : Ex} {ds : List PyData}
/-- a turn that writes nothing -/
structure Turn (C : Nat → List D → M D) (ρ : Rho) (own : List Nat) (tg : Tg) (cond : Ox) (e : Ex) (d : PyData) (p : Bool) (y : PyData) : Prop where
  ex : ∃ ρ', assignT tg (wipeR ρ own) (.dat d) = some ρ' ∧ denc C cond ρ' = .ret p ∧ (p = true → den C e ρ' = .ret (.dat y))
theorem lc_pure {p : PyData → Bool} {g : PyData → PyData} (hit : denIt C it ρ = .ret (ds.map .dat)) (ht : ∀ d ∈ ds, Turn C ρ own tg cond e d (p d) (g d)) (hl : ds.length ≤ 16777216) : den C (.lc e (.mk own tg it cond)) ρ = .ret (.dat (.list ((ds.filter p).map g))) := by
  show ((denIt C it ρ).bind fun xs => (quiet (loopC (fun x acc => (M.opt (assignT tg (wipeR ρ own) x)).bind fun ρ' => (denc C cond ρ').bind fun b =>
      if b = true then (den C e ρ').bind fun y => (match y with
        | .dat d => if acc.length < 16777216 then .ret (acc ++ [d]) else .no
        | _ => .no) else .ret acc) xs [])).bind fun acc => (M.ret (D.dat (.list acc)) : M D)) = _
  rw [hit, M.ret_bind]
  have key : ∀ (ds : List PyData) (acc : List PyData), (∀ d ∈ ds, Turn C ρ own tg cond e d (p d) (g d)) → acc.length + ds.length ≤ 16777216 → loopC (fun x acc => (M.opt (assignT tg (wipeR ρ own) x)).bind fun ρ' => (denc C cond ρ').bind fun b =>
      if b = true then (den C e ρ').bind fun y => (match y with
        | .dat d => if acc.length < 16777216 then .ret (acc ++ [d]) else .no
        | _ => .no) else .ret acc) (ds.map .dat) acc = (.ret (acc ++ (ds.filter p).map g) : M (List PyData)) := by
    intro ds
    induction ds with
    | nil => intro acc _ _; simp [loopC]
    | cons d ds ih =>
      intro acc h hl
      rw [List.length_cons] at hl
      obtain ⟨ρ', e1, e2, e3⟩ := (h d List.mem_cons_self).ex
      rw [List.map_cons]
      show ((M.opt (assignT tg (wipeR ρ own) (.dat d))).bind _ : M (List PyData)).bind _ = _
      rw [e1, M.opt_some, M.ret_bind, e2, M.ret_bind]
      cases hp : p d with
      | true =>
        rw [if_pos rfl, e3 hp, M.ret_bind]
        show (if acc.length < 16777216 then M.ret (acc ++ [g d]) else M.no : M (List PyData)).bind _ = _
        rw [if_pos (by omega), M.ret_bind, ih _ (fun x hx => h x (List.mem_cons_of_mem _ hx)) (by rw [List.length_append]; simp; omega), List.filter_cons, if_pos hp]
        simp
      | false =>
        rw [if_neg Bool.false_ne_true, M.ret_bind, ih _ (fun x hx => h x (List.mem_cons_of_mem _ hx)) (by omega), List.filter_cons, if_neg (by rw [hp]; simp)]
  rw [key ds [] ht (by simpa using hl), quiet_ret, M.ret_bind]
  rfl
theorem filter_tt : ∀ l : List PyData, l.filter (fun _ => true) = l
  | [] => rfl
  | a :: l => by rw [List.filter_cons, if_pos rfl, filter_tt l]
theorem lc_all {g : PyData → PyData} (hit : denIt C it ρ = .ret (ds.map .dat)) (ht : ∀ d ∈ ds, ∃ ρ', assignT tg (wipeR ρ own) (.dat d) = some ρ' ∧ den C e ρ' = .ret (.dat (g d))) (hl : ds.length ≤ 16777216) : den C (.lc e (.mk own tg it .none)) ρ = .ret (.dat (.list (ds.map g))) := by
  rw [lc_pure (p := fun _ => true) (g := g) hit (fun d hd => let ⟨ρ', e1, e2⟩ := ht d hd; ⟨ρ', e1, rfl, fun _ => e2⟩) hl, filter_tt]
/-- keys of a dict of trues -/
def trues (ks : List PyData) : List (PyData × PyData) := ks.map fun k => (k, .bool true)
theorem dput_trues (ks : List PyData) (k : PyData) : dput (trues ks) k (.bool true) = trues (sput ks k) := by
  unfold dput sput trues
  have e : ((ks.map fun k => (k, PyData.bool true)).any fun p => PyData.eqv p.1 k) = ks.any fun x => PyData.eqv x k := by rw [List.any_map]; rfl
  rw [e]
  cases q : ks.any fun x => PyData.eqv x k with
  | true =>
    rw [if_pos rfl, if_pos rfl, List.map_map]
    refine List.map_congr_left fun x _ => ?_
    show (if PyData.eqv x k = true then (x, PyData.bool true) else (x, PyData.bool true)) = (x, .bool true)
    by_cases z : PyData.eqv x k = true
    · rw [if_pos z]
    · rw [if_neg z]
  | false => rw [if_neg Bool.false_ne_true, if_neg Bool.false_ne_true]; simp
theorem trues_keys (ks : List PyData) : (trues ks).map (·.1) = ks := by
  unfold trues
  rw [List.map_map]
  exact List.map_id' ks
theorem trues_len (ks : List PyData) : (trues ks).length = ks.length := by unfold trues; rw [List.length_map]
theorem sput_len (ks : List PyData) (k : PyData) : (sput ks k).length ≤ ks.length + 1 := by
  unfold sput
  split
  · omega
  · rw [List.length_append]; simp
theorem dc_pure {p : PyData → Bool} {g : PyData → PyData} (hit : denIt C it ρ = .ret (ds.map .dat)) (ht : ∀ d ∈ ds, Turn C ρ own tg cond e d (p d) (g d)) (hk : ∀ d ∈ ds, p d = true → keyOk8 (g d) = true) (hl : ds.length ≤ 16777216) :
    den C (.dc e (.mk own tg it cond)) ρ = .ret (.dic (trues (((ds.filter p).map g).foldl sput []))) := by
  show ((denIt C it ρ).bind fun xs => (quiet (loopC (fun x acc => (M.opt (assignT tg (wipeR ρ own) x)).bind fun ρ' => (denc C cond ρ').bind fun b =>
      if b = true then (den C e ρ').bind fun y => (match y with
        | .dat d => if keyOk8 d && decide (acc.length < 16777216) then .ret (dput acc d (.bool true)) else .no
        | _ => .no) else .ret acc) xs [])).bind fun acc => (M.ret (D.dic acc) : M D)) = _
  rw [hit, M.ret_bind]
  have key : ∀ (ds : List PyData) (acc : List PyData), (∀ d ∈ ds, Turn C ρ own tg cond e d (p d) (g d)) → (∀ d ∈ ds, p d = true → keyOk8 (g d) = true) → acc.length + ds.length ≤ 16777216 → loopC (fun x acc => (M.opt (assignT tg (wipeR ρ own) x)).bind fun ρ' => (denc C cond ρ').bind fun b =>
      if b = true then (den C e ρ').bind fun y => (match y with
        | .dat d => if keyOk8 d && decide (acc.length < 16777216) then .ret (dput acc d (.bool true)) else .no
        | _ => .no) else .ret acc) (ds.map .dat) (trues acc) = (.ret (trues (((ds.filter p).map g).foldl sput acc)) : M (List (PyData × PyData))) := by
    intro ds
    induction ds with
    | nil => intro acc _ _ _; simp [loopC]
    | cons d ds ih =>
      intro acc h hk hl
      rw [List.length_cons] at hl
      obtain ⟨ρ', e1, e2, e3⟩ := (h d List.mem_cons_self).ex
      rw [List.map_cons]
      show ((M.opt (assignT tg (wipeR ρ own) (.dat d))).bind _ : M (List (PyData × PyData))).bind _ = _
      rw [e1, M.opt_some, M.ret_bind, e2, M.ret_bind]
      cases hp : p d with
      | true =>
        have hs := sput_len acc (g d)
        rw [if_pos rfl, e3 hp, M.ret_bind]
        show (if (keyOk8 (g d) && decide ((trues acc).length < 16777216)) = true then M.ret (dput (trues acc) (g d) (.bool true)) else M.no : M (List (PyData × PyData))).bind _ = _
        rw [if_pos (by rw [hk d List.mem_cons_self hp, trues_len, decide_eq_true (show acc.length < 16777216 by omega)]; rfl), M.ret_bind, dput_trues, ih _ (fun x hx => h x (List.mem_cons_of_mem _ hx)) (fun x hx => hk x (List.mem_cons_of_mem _ hx)) (by omega), List.filter_cons, if_pos hp]
        rfl
      | false =>
        rw [if_neg Bool.false_ne_true, M.ret_bind, ih _ (fun x hx => h x (List.mem_cons_of_mem _ hx)) (fun x hx => hk x (List.mem_cons_of_mem _ hx)) (by omega), List.filter_cons, if_neg (by rw [hp]; simp)]
  have k0 := key ds [] ht hk (by simpa using hl)
  rw [show (trues []) = [] from rfl] at k0
  rw [k0, quiet_ret, M.ret_bind]
theorem dc_all {g : PyData → PyData} (hit : denIt C it ρ = .ret (ds.map .dat)) (ht : ∀ d ∈ ds, ∃ ρ', assignT tg (wipeR ρ own) (.dat d) = some ρ' ∧ den C e ρ' = .ret (.dat (g d))) (hk : ∀ d ∈ ds, keyOk8 (g d) = true) (hl : ds.length ≤ 16777216) :
    den C (.dc e (.mk own tg it .none)) ρ = .ret (.dic (trues ((ds.map g).foldl sput []))) := by
  rw [dc_pure (p := fun _ => true) (g := g) hit (fun d hd => let ⟨ρ', e1, e2⟩ := ht d hd; ⟨ρ', e1, rfl, fun _ => e2⟩) (fun d hd _ => hk d hd) hl, filter_tt]
/-- sorted(.., key=..) -/
theorem sortOk_of {g : PyData → PyData} {G : PyData → Prop} (W : Good g G) {xs : List PyData} (h : ∀ x ∈ xs, G x) (hl : xs.length ≤ 16777216) : sortOk (xs.map g) = true := by
  unfold sortOk allAlike
  simp only [Bool.and_eq_true, List.all_eq_true, decide_eq_true_eq, List.mem_map, List.length_map]
  refine ⟨⟨?_, ?_⟩, hl⟩
  · rintro d ⟨x, hx, rfl⟩ d' ⟨y, hy, rfl⟩
    exact W.alike x y (h x hx) (h y hy)
  · rintro d ⟨x, hx, rfl⟩
    exact W.dep x (h x hx)
theorem srtf_pure {f : Nat} {g : PyData → PyData} {G : PyData → Prop} {x : D} {xs : List PyData} (W : Good g G) (he : den C e ρ = .ret x) (hx : ∀ h, srtOf h x = some xs) (hG : ∀ d ∈ xs, G d) (hf : ∀ d ∈ xs, C f [.dat d] = .ret (.dat (g d))) (hl : xs.length ≤ 16777216) :
    den C (.srtf e f) ρ = .ret (.dat (.list (sortD (xs.map g) xs))) := by
  rw [den_srtf, he, M.ret_bind, show (M.rd fun h => srtOf h x) = M.ret xs from (congrArg M.rd (funext hx)).trans (M.rd_const _), M.ret_bind, mapM_ret xs hf, quiet_ret, M.ret_bind, if_pos (sortOk_of W hG hl)]
theorem srtl_pure {b : Ex} {g : PyData → PyData} {G : PyData → Prop} {x : D} {xs : List PyData} (W : Good g G) (he : den C e ρ = .ret x) (hx : ∀ h, srtOf h x = some xs) (hG : ∀ d ∈ xs, G d) (hf : ∀ d ∈ xs, den C b [some (.dat d)] = .ret (.dat (g d))) (hl : xs.length ≤ 16777216) :
    den C (.srtl e b) ρ = .ret (.dat (.list (sortD (xs.map g) xs))) := by
  rw [den_srtl, he, M.ret_bind, show (M.rd fun h => srtOf h x) = M.ret xs from (congrArg M.rd (funext hx)).trans (M.rd_const _), M.ret_bind, mapM_ret xs hf, quiet_ret, M.ret_bind, if_pos (sortOk_of W hG hl)]
end
end DL
end
section
set_option Elab.async false
set_option linter.all false
set_option autoImplicit false
set_option maxRecDepth 100000
/-! Plain laws about the data layer, part d: what may be shown and asked for equality. -/
namespace DL
open PySem
/-- of depth n, shown in w signs at most -/
structure Ok (n w : Nat) (d : PyData) : Prop where
  lay : d.canLay0 = true
  dep : d.depth ≤ n
  sh : d.showable = true
  len : d.shown.length ≤ w
  cl : clean d = true
theorem Ok.mono {n n' w w' : Nat} {d : PyData} (h : Ok n w d) (h1 : n ≤ n') (h2 : w ≤ w') : Ok n' w' d := ⟨h.lay, Nat.le_trans h.dep h1, h.sh, Nat.le_trans h.len h2, h.cl⟩
/-- the same, by reckoning -/
def okB (n w : Nat) (d : PyData) : Bool := d.canLay0 && decide (d.depth ≤ n) && d.showable && decide (d.shown.length ≤ w) && clean d
theorem ok_of {n w : Nat} {d : PyData} (h : okB n w d = true) : Ok n w d := by
  unfold okB at h
  simp only [Bool.and_eq_true, decide_eq_true_eq] at h
  exact ⟨h.1.1.1.1, h.1.1.1.2, h.1.1.2, h.1.2, h.2⟩
theorem all_ok {n w : Nat} : ∀ {xs : List PyData}, (∀ x ∈ xs, Ok n w x) → PyData.canLayAll0 xs = true ∧ PyData.depthAll xs ≤ n ∧ PyData.showableAll xs = true ∧ clean.cleans xs = true ∧ (PyData.shownAll xs).length = xs.length ∧ ∀ t ∈ PyData.shownAll xs, t.length ≤ w
  | [], _ => ⟨by simp [PyData.canLayAll0], by simp [PyData.depthAll], by simp [PyData.showableAll], rfl, by simp [PyData.shownAll], by simp [PyData.shownAll]⟩
  | x :: xs, h => by
    obtain ⟨h1, h2, h3, h4, h5, h6⟩ := all_ok (xs := xs) fun y hy => h y (List.mem_cons_of_mem _ hy)
    have hx := h x List.mem_cons_self
    refine ⟨by simp [PyData.canLayAll0, hx.lay, h1], by simp only [PyData.depthAll]; exact Nat.max_le.mpr ⟨hx.dep, h2⟩, by simp [PyData.showableAll, hx.sh, h3], by show (clean x && clean.cleans xs) = true; rw [hx.cl, h4]; rfl, by simp [PyData.shownAll, h5], fun t ht => ?_⟩
    simp only [PyData.shownAll, List.mem_cons] at ht
    rcases ht with rfl | ht
    · exact hx.len
    · exact h6 t ht
theorem from_len {w : Nat} : ∀ (ts : List Str) (k : Nat) (acc : Str), (∀ t ∈ ts, t.length ≤ w) → (textFrom k acc ts).length ≤ acc.length + ts.length * (w + 2)
  | [], _, acc, _ => by show acc.length ≤ _; omega
  | t :: r, k, acc, h => by
    have ih := from_len r (k + 1) (acc ++ (if k > 0 then ", " else "" : String) ++ t) fun x hx => h x (List.mem_cons_of_mem _ hx)
    have e : (acc ++ (if k > 0 then ", " else "" : String) ++ t).length = acc.length + (if k > 0 then 2 else 0) + t.length := by
      rw [strLen_append, strLen_append]
      split <;> rfl
    have ht := h t List.mem_cons_self
    show (textFrom (k + 1) (acc ++ (if k > 0 then ", " else "" : String) ++ t) r).length ≤ _
    rw [e] at ih
    rw [List.length_cons, Nat.succ_mul]
    have e2 : (if k > 0 then 2 else 0 : Nat) ≤ 2 := by split <;> omega
    omega
theorem piled_len {w : Nat} : ∀ (ts : List Str), (∀ t ∈ ts, t.length ≤ w) → piled ts ≤ ts.length * (w + 2)
  | [], _ => by rw [piled_nil]; exact Nat.zero_le _
  | t :: r, h => by
    have ih := piled_len r fun x hx => h x (List.mem_cons_of_mem _ hx)
    have ht := h t List.mem_cons_self
    rw [piled_cons, List.length_cons, Nat.succ_mul]
    omega
theorem Ok.list {n w : Nat} {xs : List PyData} (h : ∀ x ∈ xs, Ok n w x) : Ok (n + 1) (xs.length * (w + 2) + 2) (.list xs) := by
  obtain ⟨h1, h2, h3, h4, h5, h6⟩ := all_ok h
  refine ⟨by simp only [PyData.canLay0]; exact h1, by simp only [PyData.depth]; omega, by simp only [PyData.showable]; exact h3, ?_, h4⟩
  have := from_len (PyData.shownAll xs) 0 "[" h6
  rw [h5] at this
  simp only [PyData.shown]
  show (textFrom 0 "[" (PyData.shownAll xs) ++ ("]" : Str)).length ≤ _
  rw [strLen_append]
  have e1 : (("[" : String) : Str).length = 1 := rfl
  have e2 : (("]" : String) : Str).length = 1 := rfl
  omega
theorem Ok.tuple {n w : Nat} {xs : List PyData} (h : ∀ x ∈ xs, Ok n w x) : Ok (n + 1) (xs.length * (w + 2) + 4) (.tuple xs) := by
  obtain ⟨h1, h2, h3, h4, h5, h6⟩ := all_ok h
  refine ⟨by simp only [PyData.canLay0]; exact h1, by simp only [PyData.depth]; omega, by simp only [PyData.showable]; exact h3, ?_, h4⟩
  have hp := piled_len (PyData.shownAll xs) h6
  rw [h5] at hp
  simp only [PyData.shown]
  have e1 : (("(" : String) : Str).length = 1 := rfl
  have ej : (Str.join ", " (PyData.shownAll xs)).length ≤ xs.length * (w + 2) := by
    by_cases z : PyData.shownAll xs = []
    · rw [z]; show 0 ≤ _; omega
    · have := join_length_add _ z
      omega
  have el : ((if (PyData.shownAll xs).length == 1 then ",)" else ")" : String) : Str).length ≤ 2 := by
    split
    · exact Nat.le_refl 2
    · show 1 ≤ 2; omega
  show ((("(" : Str) ++ Str.join ", " (PyData.shownAll xs)) ++ _).length ≤ _
  rw [strLen_append, strLen_append]
  omega
/-- repr and == of one and the same -/
theorem Ok.shaped {n w : Nat} {d : PyData} (h : Ok n w d) (hn : n ≤ 64) : SeqAt.shaped d = true := by
  unfold SeqAt.shaped
  rw [h.lay, decide_eq_true (Nat.le_trans h.dep hn)]; rfl
theorem Ok.repr {n w : Nat} {d : PyData} (h : Ok n w d) (hn : n ≤ 64) (hw : w ≤ 16777216) (s : Store) : opBi .repr s [.dat d] = some (.dat (.str d.shown)) := by
  show ((rdD s (.dat d)).bind fun d => if d.showable && szOk d.shown.length && decide (d.depth ≤ 64) && !d.hasDict then some (D.dat (.str d.shown)) else none) = _
  rw [rdD_dat, Option.bind_some, if_pos]
  rw [h.sh, decide_eq_true (Nat.le_trans h.dep hn), PyData.hasDict_of_canLay d h.lay, show szOk d.shown.length = true from decide_eq_true (Nat.le_trans h.len hw)]; rfl
theorem eqOk_of {n w n' w' : Nat} {a b : PyData} (ha : Ok n w a) (hb : Ok n' w' b) (h1 : n ≤ 64) (h2 : n' ≤ 64) : eqOk a b = true := by
  unfold eqOk
  split
  · rfl
  · rw [ha.shaped h1, hb.shaped h2]; rfl
end DL
end
section
set_option Elab.async false
set_option linter.all false
set_option autoImplicit false
set_option maxRecDepth 100000
/-! Plain laws about the data layer, part e: drawing from the bag. -/
namespace DL
open PySem
/-- the bag: what is left of the number, the stirring, the place, the cells -/
def bagD (a b c : Int) (cs : List PyData) : List D := [.dat (.int a), .dat (.int b), .dat (.int c), .dat (.list cs)]
structure Bag (l : Nat) (h : Store) : Prop where
  ex : ∃ (a b c : Int) (cs : List PyData), h[l]? = some (some (bagD a b c cs)) ∧ 0 ≤ a ∧ 0 ≤ b ∧ 0 ≤ c ∧ cs.length ≤ 1000 ∧ ∀ x ∈ cs, ∃ i : Int, x = .int i ∧ 0 ≤ i
/-- all else stays -/
structure Fr (l : Nat) (h h' : Store) : Prop where
  len : h.length ≤ h'.length
  same : ∀ j, j < h.length → j ≠ l → h'[j]? = h[j]?
theorem Fr.refl {l : Nat} {h : Store} : Fr l h h := ⟨Nat.le_refl _, fun _ _ _ => rfl⟩
theorem Fr.trans {l : Nat} {h h1 h2 : Store} (a : Fr l h h1) (b : Fr l h1 h2) : Fr l h h2 := ⟨Nat.le_trans a.len b.len, fun j hj hn => (b.same j (Nat.lt_of_lt_of_le hj a.len) hn).trans (a.same j hj hn)⟩
theorem Fr.app {l : Nat} {h : Store} (x : List (Option (List D))) : Fr l h (h ++ x) := ⟨by rw [List.length_append]; omega, fun j hj _ => List.getElem?_append_left hj⟩
theorem Bag.lt {l : Nat} {h : Store} (b : Bag l h) : l < h.length := by
  obtain ⟨_, _, _, _, e, _⟩ := b.ex
  exact (List.getElem?_eq_some_iff.mp e).1
theorem Bag.app {l : Nat} {h : Store} (b : Bag l h) (x : List (Option (List D))) : Bag l (h ++ x) := by
  obtain ⟨a, b', c, cs, e, r⟩ := b.ex
  exact ⟨a, b', c, cs, by rw [List.getElem?_append_left b.lt]; exact e, r⟩
/-- m draws at will, and answers so -/
def S {α : Type} (l : Nat) (φ : α → Prop) (m : M α) : Prop := ∀ h, Bag l h → ∃ a h', m h = .ok a h' ∧ φ a ∧ Bag l h' ∧ Fr l h h'
section
variable {α β : Type} {l : Nat}
theorem S.ret {φ : α → Prop} {a : α} (h : φ a) : S l φ (M.ret a) := fun s b => ⟨a, s, rfl, h, b, .refl⟩
theorem S.bind {φ : α → Prop} {ψ : β → Prop} {m : M α} {f : α → M β} (h : S l φ m) (k : ∀ a, φ a → S l ψ (f a)) : S l ψ (m.bind f) := fun s b => by
  obtain ⟨a, s1, e1, q1, b1, f1⟩ := h s b
  obtain ⟨c, s2, e2, q2, b2, f2⟩ := k a q1 s1 b1
  exact ⟨c, s2, (M.at_bind e1).trans e2, q2, b2, f1.trans f2⟩
theorem S.mono {φ ψ : α → Prop} {m : M α} (h : S l φ m) (k : ∀ a, φ a → ψ a) : S l ψ m := fun s b => let ⟨a, s', e, q, r⟩ := h s b; ⟨a, s', e, k a q, r⟩
theorem S.of_ret {m : M α} {a : α} (h : m = M.ret a) : S l (· = a) m := by rw [h]; exact S.ret rfl
theorem S.of_app {m : M α} {a : α} (h : ∀ s, m s = .ok a (s ++ [none])) : S l (· = a) m := fun s b => ⟨a, _, h s, rfl, b.app _, .app _⟩
theorem S.quiet {φ : α → Prop} {m : M α} (h : S l φ m) : S l φ (quiet m) := fun s b => let ⟨a, s', e, r⟩ := h s b; ⟨a, s', quiet_at e, r⟩
theorem S.loopC {f : D → α → M α} {I : Nat → α → Prop} : ∀ (xs : List D) (j : Nat) (acc : α), (∀ i x a, xs[i]? = some x → I (j + i) a → S l (I (j + i + 1)) (f x a)) → I j acc → S l (I (j + xs.length)) (loopC f xs acc)
  | [], _, _, _, hI => S.ret hI
  | x :: xs, j, acc, h, hI => by
    refine S.bind (h 0 x acc rfl hI) fun a q => ?_
    have := S.loopC xs (j + 1) a (fun i y b hy hb => by
      have := h (i + 1) y b (by simpa using hy) (by rw [show j + (i + 1) = j + 1 + i by omega]; exact hb)
      rw [show j + (i + 1) = j + 1 + i by omega] at this
      exact this) q
    rw [show j + (x :: xs).length = j + 1 + xs.length by simp; omega]
    exact this
theorem S.loopS {f : D → Rho → M Oc} {I : Rho → Prop} : ∀ (xs : List D) (ρ : Rho), (∀ x ∈ xs, ∀ ρ, I ρ → S l (fun o => ∃ ρ', o = .nx ρ' ∧ I ρ') (f x ρ)) → I ρ → S l (fun o => ∃ ρ', o = .nx ρ' ∧ I ρ') (loopS f xs ρ)
  | [], ρ, _, hI => S.ret ⟨ρ, rfl, hI⟩
  | x :: xs, ρ, h, hI => by
    refine S.bind (h x List.mem_cons_self ρ hI) fun o ⟨ρ', e, q⟩ => ?_
    subst e
    exact S.loopS xs ρ' (fun y hy => h y (List.mem_cons_of_mem _ hy)) q
/-- a comprehension that draws -/
theorem S.lc {C : Nat → List D → M D} {ρ : Rho} {own : List Nat} {tg : Tg} {it : It} {e : Ex} {R : D → Prop} {ψ : PyData → Prop} {n : Nat} (hn : n ≤ 16777216) (hit : S l (fun xs => xs.length ≤ n ∧ ∀ x ∈ xs, R x) (denIt C it ρ))
    (he : ∀ x, R x → ∃ ρ', assignT tg (wipeR ρ own) x = some ρ' ∧ S l (fun y => ∃ d, y = .dat d ∧ ψ d) (den C e ρ')) : S l (fun r => ∃ ds, r = .dat (.list ds) ∧ (∀ d ∈ ds, ψ d) ∧ ds.length ≤ n) (den C (.lc e (.mk own tg it .none)) ρ) := by
  show S l _ ((denIt C it ρ).bind fun xs => (DL.quiet (DL.loopC (fun x acc => (M.opt (assignT tg (wipeR ρ own) x)).bind fun ρ' => (denc C .none ρ').bind fun b =>
      if b = true then (den C e ρ').bind fun y => (match y with
        | .dat d => if acc.length < 16777216 then .ret (acc ++ [d]) else .no
        | _ => .no) else .ret acc) xs [])).bind fun acc => (M.ret (D.dat (.list acc)) : M D))
  refine S.bind hit fun xs ⟨hl, hR⟩ => ?_
  refine S.bind (φ := fun acc : List PyData => acc.length = 0 + xs.length ∧ ∀ d ∈ acc, ψ d) (S.quiet (S.loopC (I := fun j acc => acc.length = j ∧ ∀ d ∈ acc, ψ d) xs 0 [] (fun i x a hx ⟨ha, hq⟩ => ?_) ⟨rfl, fun _ z => by cases z⟩)) fun acc ⟨ha, hq⟩ => S.ret ⟨acc, rfl, hq, by omega⟩
  obtain ⟨ρ', e1, hs⟩ := he x (hR x (List.mem_of_getElem? hx))
  rw [e1, M.opt_some, M.ret_bind, denc_none, M.ret_bind, if_pos rfl]
  refine S.bind hs fun y ⟨d, ey, hd⟩ => ?_
  subst ey
  have hi := (List.getElem?_eq_some_iff.mp hx).1
  show S l _ (if a.length < 16777216 then M.ret (a ++ [d]) else M.no)
  rw [if_pos (by omega)]
  refine S.ret ⟨by rw [List.length_append, ha]; rfl, fun z hz => ?_⟩
  rcases List.mem_append.mp hz with q | q
  · exact hq z q
  · rw [List.mem_singleton.mp q]; exact hd
/-- range(n) -/
theorem S.rng {C : Nat → List D → M D} {ρ : Rho} {e : Ex} {n : Int} (hn : n ≤ 1000) (he : S l (fun x => ∃ i : Int, x = .dat (.int i) ∧ 0 ≤ i ∧ i ≤ n) (den C e ρ)) : S l (fun xs => xs.length ≤ n.toNat ∧ ∀ x ∈ xs, ∃ i : Int, x = .dat (.int i)) (denIt C (.rng e) ρ) := by
  show S l _ ((den C e ρ).bind fun x => M.rd fun h => (asInt (rdD h x)).bind fun j => if decide (-(2 ^ 62) ≤ j) && decide (j < 2 ^ 62) then some ((List.range j.toNat).map fun (i : Nat) => D.dat (.int (i : Int))) else none)
  refine S.bind he fun x ⟨i, ex, h0, h1⟩ => ?_
  subst ex
  have e : (fun h => (asInt (rdD h (.dat (.int i)))).bind fun j => if decide (-(2 ^ 62) ≤ j) && decide (j < 2 ^ 62) then some ((List.range j.toNat).map fun (i : Nat) => D.dat (.int (i : Int))) else none) = fun _ => some ((List.range i.toNat).map fun (i : Nat) => D.dat (.int (i : Int))) := by
    funext h
    rw [rdD_dat, asInt_i, Option.bind_some, if_pos]
    rw [Bool.and_eq_true, decide_eq_true_eq, decide_eq_true_eq]
    omega
  rw [e, M.rd_const]
  refine S.ret ⟨by rw [List.length_map, List.length_range]; omega, fun x hx => ?_⟩
  obtain ⟨j, _, rfl⟩ := List.mem_map.mp hx
  exact ⟨_, rfl⟩
end
end DL
end
section
set_option Elab.async false
set_option linter.all false
set_option autoImplicit false
set_option maxRecDepth 100000
/-! Plain laws about the data layer, part f: a drawn number. -/
namespace DL
open PySem
def takeB : Sms := (.cons (.ite (.cmp .eq (.ix (.v 0) (.c (.int 0))) (.c (.int 0))) (.cons (.set 2 (.ix (.bin .add (.sl (.ix (.v 0) (.c (.int 3))) (.some (.ix (.v 0) (.c (.int 2)))) .none) (.lst (.cons (.c (.int 0)) .nil))) (.c (.int 0))))
  (.cons (.augs (.v 0) (.c (.int 2)) .add (.c (.int 1)))
  (.cons (.ite (.cmp .ge (.v 2) (.bin .pow (.c (.int 10)) (.c (.int 18)))) (.cons (.sto (.v 0) (.c (.int 0)) (.v 2))
  .nil) .nil)
  (.cons (.set 3 (.bin .add (.bin .add (.bin .mul (.ix (.v 0) (.c (.int 1))) (.c (.int 48271))) (.bin .mod (.bi .int (.cons (.v 2) .nil)) (.c (.int 2147483647)))) (.bin .mul (.c (.int 7919)) (.ix (.v 0) (.c (.int 2))))))
  (.cons (.sto (.v 0) (.c (.int 1)) (.bin .mod (.bi .int (.cons (.v 3) .nil)) (.c (.int 2147483647))))
  .nil))))) .nil)
  (.cons (.ite (.cmp .gt (.ix (.v 0) (.c (.int 0))) (.c (.int 0))) (.cons (.set 4 (.bin .mod (.bi .int (.cons (.ix (.v 0) (.c (.int 0))) .nil)) (.v 1)))
  (.cons (.sto (.v 0) (.c (.int 0)) (.bin .fdiv (.bi .int (.cons (.ix (.v 0) (.c (.int 0))) .nil)) (.v 1)))
  (.cons (.ret (.v 4))
  .nil))) .nil)
  (.cons (.set 5 (.bin .mod (.bi .int (.cons (.bin .mul (.bin .add (.ix (.v 0) (.c (.int 1))) (.c (.int 1))) (.c (.int 39373))) .nil)) (.c (.int 1000000007))))
  (.cons (.set 6 (.bin .mod (.bi .int (.cons (.bin .mul (.bin .mod (.bi .int (.cons (.bin .mul (.v 5) (.v 5)) .nil)) (.c (.int 998244353))) (.c (.int 30011))) .nil)) (.c (.int 998244353))))
  (.cons (.ret (.bin .mod (.bi .int (.cons (.bin .fdiv (.v 6) (.c (.int 7))) .nil)) (.v 1)))
  .nil)))))

section
variable {h : Store} {l : Nat} {cs : List PyData}
abbrev bagAt (h : Store) (l : Nat) (cs : List PyData) (a b c : Int) : Store := h.set l (some (bagD a b c cs))
theorem bag_lst (hl : l < h.length) (a b c : Int) : lstAt (bagAt h l cs a b c) l = some (bagD a b c cs) := by
  unfold lstAt
  rw [List.getElem?_set_self hl]
theorem bag_0 (hl : l < h.length) (a b c : Int) : opIx (bagAt h l cs a b c) (.mut l) (.dat (.int 0)) = some (.dat (.int a)) := by rw [ix_m, bag_lst hl]; rfl
theorem bag_1 (hl : l < h.length) (a b c : Int) : opIx (bagAt h l cs a b c) (.mut l) (.dat (.int 1)) = some (.dat (.int b)) := by rw [ix_m, bag_lst hl]; rfl
theorem bag_2 (hl : l < h.length) (a b c : Int) : opIx (bagAt h l cs a b c) (.mut l) (.dat (.int 2)) = some (.dat (.int c)) := by rw [ix_m, bag_lst hl]; rfl
theorem bag_3 (hl : l < h.length) (a b c : Int) : opIx (bagAt h l cs a b c) (.mut l) (.dat (.int 3)) = some (.dat (.list cs)) := by rw [ix_m, bag_lst hl]; rfl
theorem sto_at (hl : l < h.length) (a b c : Int) (i : Int) (z : D) (j : Nat) (e : L2.ixN 4 i = some j) (a' b' c' : Int) (e2 : (bagD a b c cs).set j z = bagD a' b' c' cs) : stoD (.mut l) (.dat (.int i)) z (bagAt h l cs a b c) = .ok () (bagAt h l cs a' b' c') := by
  show (match lstAt (bagAt h l cs a b c) l with
      | some ds => (match L2.ixN ds.length i with
          | some j => Res.ok () ((bagAt h l cs a b c).set l (some (ds.set j z)))
          | none => .no)
      | none => .no) = _
  rw [bag_lst hl]
  show (match L2.ixN 4 i with
          | some j => Res.ok () ((bagAt h l cs a b c).set l (some ((bagD a b c cs).set j z)))
          | none => .no) = _
  rw [e]
  show Res.ok () ((bagAt h l cs a b c).set l (some ((bagD a b c cs).set j z))) = _
  rw [e2, List.set_set]
theorem sto_0 (hl : l < h.length) (a b c x : Int) : stoD (.mut l) (.dat (.int 0)) (.dat (.int x)) (bagAt h l cs a b c) = .ok () (bagAt h l cs x b c) := sto_at hl a b c 0 _ 0 rfl x b c rfl
theorem sto_1 (hl : l < h.length) (a b c x : Int) : stoD (.mut l) (.dat (.int 1)) (.dat (.int x)) (bagAt h l cs a b c) = .ok () (bagAt h l cs a x c) := sto_at hl a b c 1 _ 1 rfl a x c rfl
theorem sto_2 (hl : l < h.length) (a b c x : Int) : stoD (.mut l) (.dat (.int 2)) (.dat (.int x)) (bagAt h l cs a b c) = .ok () (bagAt h l cs a b x) := sto_at hl a b c 2 _ 2 rfl a b x rfl
end
section
variable (C : Nat → List D → M D) (ρ : Rho)
theorem denS_sto (o i e : Ex) : denS C (.sto o i e) ρ = (den C e ρ).bind fun z => (den C o ρ).bind fun x => (den C i ρ).bind fun y => (stoD x y z).bind fun _ => .ret (.nx ρ) := rfl
theorem denS_augs (o i : Ex) (b : Bop) (e : Ex) : denS C (.augs o i b e) ρ = (den C o ρ).bind fun x => (den C i ρ).bind fun y => (M.rd fun h => opIx h x y).bind fun w => (den C e ρ).bind fun z => (M.opt (opAug b w z)).bind fun r => (stoD x y r).bind fun _ => .ret (.nx ρ) := rfl
end
theorem aug_i (i j : Int) : opAug .add (.dat (.int i)) (.dat (.int j)) = some (.dat (.int (i + j))) := rfl
theorem rd_app {α : Type} (f : Store → Option α) (h : Store) : M.rd f h = match f h with | some a => .ok a h | none => .no := rfl
theorem bind_app {α β : Type} (m : M α) (f : α → M β) (h : Store) : m.bind f h = match m h with | .ok a h' => f a h' | .err e h' => .err e h' | .no => .no := rfl
theorem ret_app {α : Type} (a : α) (h : Store) : (M.ret a : M α) h = .ok a h := rfl
theorem opt_app {α : Type} (a : α) (h : Store) : (M.opt (some a) : M α) h = .ok a h := rfl
/-- the second half of a draw -/
def takeB2 : Sms := match takeB with
  | .cons _ r => r
  | .nil => .nil
theorem take2 {C : Nat → List D → M D} {h : Store} {l : Nat} {cs : List PyData} (hl : l < h.length) (a b c many : Int) (x2 x3 : Option D) (ha : 0 ≤ a) (hm : 0 < many) (hm2 : many < 1073741824) :
    ∃ a' r, denSs C takeB2 [some (.mut l), some (.dat (.int many)), x2, x3, none, none, none] (bagAt h l cs a b c) = .ok (.rt (.dat (.int r))) (bagAt h l cs a' b c) ∧ 0 ≤ a' ∧ 0 ≤ r ∧ r < many := by
  have d1 : (decide (0 < many) && decide (many < 1073741824)) = true := by rw [decide_eq_true hm, decide_eq_true hm2]; rfl
  by_cases h0 : 0 < a
  · refine ⟨a / many, a % many, ?_, Int.ediv_nonneg ha (by omega), Int.emod_nonneg _ (by omega), Int.emod_lt_of_pos _ hm⟩
    show denSs C (match takeB with | .cons _ r => r | .nil => .nil) _ _ = _
    unfold takeB
    simp only [denSs_cons, denSs_nil, denS_ite, denS_set, denS_ret, denS_sto, den_cmp, den_ix, den_v, den_c, den_bin, den_bi, dens_cons, dens_nil, M.ret_bind, M.bind_assoc, List.getElem?_cons_zero, List.getElem?_cons_succ, join_ss, M.opt_some, bind_app, rd_app, ret_app, bag_0 hl, cmp_gt, Option.map_some, tru_b, decide_eq_true h0, ↓reduceIte, bi_int_i, mod_i, decide_eq_true hm, List.set_cons_succ, List.set_cons_zero, fdiv_i, decide_eq_true hm2, Bool.and_self, sto_0 hl]
  · have ha0 : a = 0 := by omega
    subst ha0
    have s1 : small64 ((b + 1) * 39373 % 1000000007) = true := by
      have := Int.emod_nonneg ((b + 1) * 39373) (show (1000000007 : Int) ≠ 0 by decide)
      have := Int.emod_lt_of_pos ((b + 1) * 39373) (show (0 : Int) < 1000000007 by decide)
      unfold small64
      rw [Bool.and_eq_true, decide_eq_true_eq, decide_eq_true_eq]
      omega
    have k1 : small64 39373 = true := by decide
    have k2 : small64 30011 = true := by decide
    have k3 : (decide ((0 : Int) < 7) && decide ((7 : Int) < 1073741824)) = true := by decide
    have k4 : decide ((0 : Int) < 1000000007) = true := by decide
    have k5 : decide ((0 : Int) < 998244353) = true := by decide
    have k6 : decide ((0 : Int) < 0) = false := by decide
    refine ⟨0, ((b + 1) * 39373 % 1000000007 * ((b + 1) * 39373 % 1000000007) % 998244353 * 30011 % 998244353) / 7 % many, ?_, Int.le_refl _, Int.emod_nonneg _ (by omega), Int.emod_lt_of_pos _ hm⟩
    show denSs C (match takeB with | .cons _ r => r | .nil => .nil) _ _ = _
    unfold takeB
    simp only [denSs_cons, denSs_nil, denS_ite, denS_set, denS_ret, denS_sto, den_cmp, den_ix, den_v, den_c, den_bin, den_bi, dens_cons, dens_nil, M.ret_bind, M.bind_assoc, List.getElem?_cons_zero, List.getElem?_cons_succ, join_ss, M.opt_some, bind_app, rd_app, ret_app, bag_0 hl, bag_1 hl, cmp_gt, Option.map_some, tru_b, k6, Bool.false_eq_true, ↓reduceIte, bi_int_i, mod_i, mul_i, add_i, decide_eq_true hm, List.set_cons_succ, List.set_cons_zero, fdiv_i, k1, k2, k3, k4, k5, s1, Bool.or_true, Bool.true_or, Bool.or_self]
theorem set_same {α : Type} : ∀ {h : List α} {l : Nat} {x : α}, h[l]? = some x → h.set l x = h
  | [], _, _, e => by simp at e
  | a :: h, 0, x, e => by
    have e' : a = x := Option.some.inj e
    rw [e']; rfl
  | a :: h, l + 1, x, e => by
    show a :: h.set l x = a :: h
    rw [set_same (by simpa using e)]
def takeB1 : Sm := match takeB with
  | .cons s _ => s
  | .nil => .pass
theorem pow1018 (h : Store) : opBin .pow h (.dat (.int 10)) (.dat (.int 18)) = some (.int 1000000000000000000) := rfl
theorem take1 {C : Nat → List D → M D} {h : Store} {l : Nat} {cs : List PyData} (hl : l < h.length) (a b c many : Int) (ha : 0 ≤ a) (hb : 0 ≤ b) (hc : 0 ≤ c) (hcs : cs.length ≤ 1000) (hci : ∀ x ∈ cs, ∃ i : Int, x = .int i ∧ 0 ≤ i) :
    ∃ a' b' c' x2 x3, denS C takeB1 [some (.mut l), some (.dat (.int many)), none, none, none, none, none] (bagAt h l cs a b c) = .ok (.nx [some (.mut l), some (.dat (.int many)), x2, x3, none, none, none]) (bagAt h l cs a' b' c') ∧ 0 ≤ a' ∧ 0 ≤ b' ∧ 0 ≤ c' := by
  show ∃ a' b' c' x2 x3, denS C (match takeB with | .cons s _ => s | .nil => .pass) _ _ = _ ∧ _
  unfold takeB
  have cmp0 : ∀ h : Store, opCmp .eq h (.dat (.int a)) (.dat (.int 0)) = some (a == 0) := fun h => rfl
  by_cases h0 : a = 0
  · subst h0
    have ht : ((0 : Int) == 0) = true := rfl
    -- the cell
    obtain ⟨i, r, el, hi, hlen⟩ : ∃ (i : Int) (r : List PyData), cutD cs (some c) none ++ [.int 0] = .int i :: r ∧ 0 ≤ i ∧ (cutD cs (some c) none).length ≤ 1000 := by
      have hsub : ∀ x ∈ cutD cs (some c) none, x ∈ cs := fun x hx => List.mem_of_mem_drop (List.mem_of_mem_take hx)
      have hlen : (cutD cs (some c) none).length ≤ 1000 := by
        unfold cutD
        rw [List.length_take, List.length_drop]
        omega
      cases q : cutD cs (some c) none with
      | nil => exact ⟨0, [], rfl, Int.le_refl _, by simp⟩
      | cons x r =>
        obtain ⟨i, ei, hi⟩ := hci x (hsub x (by rw [q]; exact List.mem_cons_self))
        subst ei
        exact ⟨i, r ++ [.int 0], rfl, hi, by rw [← q]; exact hlen⟩
    have hsz : szOk ((cutD cs (some c) none).length + (0 + 1)) = true := decide_eq_true (by omega)
    have k1 : small64 48271 = true := by decide
    have k2 : small64 7919 = true := by decide
    have k4 : decide ((0 : Int) < 2147483647) = true := by decide
    by_cases hg : (1000000000000000000 : Int) ≤ i
    · refine ⟨i, (b * 48271 + i % 2147483647 + 7919 * (c + 1)) % 2147483647, c + 1, some (.dat (.int i)), some (.dat (.int (b * 48271 + i % 2147483647 + 7919 * (c + 1)))), ?_, hi, Int.emod_nonneg _ (by decide), by omega⟩
      simp only [denSs_cons, denSs_nil, denS_ite, denS_set, denS_ret, denS_sto, denS_augs, den_cmp, den_ix, den_v, den_c, den_bin, den_bi, den_sl, den_lst, deno_some, deno_none, dens_cons, dens_nil, M.ret_bind, M.bind_assoc, List.getElem?_cons_zero, List.getElem?_cons_succ, join_ss, M.opt_some, bind_app, rd_app, ret_app, opt_app, bag_0 hl, bag_1 hl, bag_2 hl, bag_3 hl, cmp0, ht, cmp_ge, Option.map_some, tru_b, ↓reduceIte, bi_int_i, mod_i, mul_i, add_i, add_l, List.set_cons_succ, List.set_cons_zero, k1, k2, k4, Bool.or_true, Bool.true_or, sto_0 hl, sto_1 hl, sto_2 hl, aug_i, rdD_dat, asInt_i, sl_l, datAll_cons, datAll_nil, List.length_cons, List.length_nil, sz1, hsz, el, at_0, ix_l, pow1018, decide_eq_true hg]
    · refine ⟨0, (b * 48271 + i % 2147483647 + 7919 * (c + 1)) % 2147483647, c + 1, some (.dat (.int i)), some (.dat (.int (b * 48271 + i % 2147483647 + 7919 * (c + 1)))), ?_, Int.le_refl _, Int.emod_nonneg _ (by decide), by omega⟩
      simp only [denSs_cons, denSs_nil, denS_ite, denS_set, denS_ret, denS_sto, denS_augs, den_cmp, den_ix, den_v, den_c, den_bin, den_bi, den_sl, den_lst, deno_some, deno_none, dens_cons, dens_nil, M.ret_bind, M.bind_assoc, List.getElem?_cons_zero, List.getElem?_cons_succ, join_ss, M.opt_some, bind_app, rd_app, ret_app, opt_app, bag_0 hl, bag_1 hl, bag_2 hl, bag_3 hl, cmp0, ht, cmp_ge, Option.map_some, tru_b, Bool.false_eq_true, ↓reduceIte, bi_int_i, mod_i, mul_i, add_i, add_l, List.set_cons_succ, List.set_cons_zero, k1, k2, k4, Bool.or_true, Bool.true_or, sto_0 hl, sto_1 hl, sto_2 hl, aug_i, rdD_dat, asInt_i, sl_l, datAll_cons, datAll_nil, List.length_cons, List.length_nil, sz1, hsz, el, at_0, ix_l, pow1018, decide_eq_false hg]
  · have hf : (a == 0) = false := beq_false_of_ne h0
    refine ⟨a, b, c, none, none, ?_, ha, hb, hc⟩
    simp only [denSs_cons, denSs_nil, denS_ite, den_cmp, den_ix, den_v, den_c, M.ret_bind, M.bind_assoc, List.getElem?_cons_zero, List.getElem?_cons_succ, join_ss, M.opt_some, bind_app, rd_app, ret_app, bag_0 hl, cmp0, hf, Option.map_some, tru_b, Bool.false_eq_true, ↓reduceIte]
/-- a drawn number -/
theorem take_run {C : Nat → List D → M D} {h : Store} {l : Nat} (B : Bag l h) (many : Int) (hm : 0 < many) (hm2 : many < 1073741824) :
    ∃ r h', runFn C ⟨7, 2, takeB⟩ [.mut l, .dat (.int many)] h = .ok (.dat (.int r)) h' ∧ (0 ≤ r ∧ r < many) ∧ Bag l h' ∧ Fr l h h' := by
  have hl := B.lt
  obtain ⟨a, b, c, cs, e, ha, hb, hc, hcs, hci⟩ := B.ex
  have eh : h = bagAt h l cs a b c := by
    show h = h.set l (some (bagD a b c cs))
    rw [set_same e]
  have back : ∀ a' b' c', 0 ≤ a' → 0 ≤ b' → 0 ≤ c' → Bag l (bagAt h l cs a' b' c') ∧ Fr l h (bagAt h l cs a' b' c') := fun a' b' c' h1 h2 h3 =>
    ⟨⟨a', b', c', cs, List.getElem?_set_self hl, h1, h2, h3, hcs, hci⟩, ⟨by rw [List.length_set]; exact Nat.le_refl _, fun j _ hn => List.getElem?_set_ne (Ne.symm hn)⟩⟩
  have two : ∀ (a' b' c' : Int) (x2 x3 : Option D), 0 ≤ a' → 0 ≤ b' → 0 ≤ c' → ∃ r h', (denSs C takeB2 [some (.mut l), some (.dat (.int many)), x2, x3, none, none, none]).bind (fun o => match o with
      | .nx _ => .ret (.dat .none)
      | .rt d => .ret d) (bagAt h l cs a' b' c') = .ok (.dat (.int r)) h' ∧ (0 ≤ r ∧ r < many) ∧ Bag l h' ∧ Fr l h h' := fun a' b' c' x2 x3 h1 h2 h3 => by
    obtain ⟨a2, r, q1, q2, q3, q4⟩ := take2 (C := C) (cs := cs) hl a' b' c' many x2 x3 h1 hm hm2
    exact ⟨r, _, M.at_bind q1, ⟨q3, q4⟩, back a2 b' c' q2 h2 h3⟩
  rw [run_at (n := 7) (p := 2) (by rfl)]
  obtain ⟨a', b', c', x2, x3, q, h1, h2, h3⟩ := take1 (C := C) (cs := cs) hl a b c many ha hb hc hcs hci
  rw [← eh] at q
  obtain ⟨r, h', e2, rest⟩ := two a' b' c' x2 x3 h1 h2 h3
  refine ⟨r, h', ?_, rest⟩
  rw [← e2]
  show ((denS C takeB1 [some (.mut l), some (.dat (.int many)), none, none, none, none, none]).bind fun o => match o with
    | .nx ρ' => denSs C takeB2 ρ'
    | .rt d => .ret (.rt d)).bind _ h = _
  rw [M.bind_assoc]
  exact M.at_bind q
end DL
end
section
set_option Elab.async false
set_option linter.all false
set_option autoImplicit false
set_option maxRecDepth 100000
/-! Plain laws about the data layer, part g: comprehensions of two clauses. -/
namespace DL
open PySem
section
variable {C : Nat → List D → M D} {ρ : Rho} {own : List Nat} {tg tg2 : Tg} {it it2 : It} {cond cond2 : Ox} {e : Ex}
/-- one clause's turns, a list gathered -/
abbrev turnL (C : Nat → List D → M D) (ρ : Rho) (own : List Nat) (tg : Tg) (cond : Ox) (e : Ex) : D → List PyData → M (List PyData) := fun x acc => (M.opt (assignT tg (wipeR ρ own) x)).bind fun ρ' => (denc C cond ρ').bind fun b =>
      if b = true then (den C e ρ').bind fun y => (match y with
        | .dat d => if acc.length < 16777216 then .ret (acc ++ [d]) else .no
        | _ => .no) else .ret acc
theorem loopL {p : PyData → Bool} {g : PyData → PyData} : ∀ (ds acc : List PyData), (∀ d ∈ ds, Turn C ρ own tg cond e d (p d) (g d)) → acc.length + ds.length ≤ 16777216 → loopC (turnL C ρ own tg cond e) (ds.map .dat) acc = .ret (acc ++ (ds.filter p).map g)
  | [], acc, _, _ => by simp [loopC]
  | d :: ds, acc, h, hl => by
    rw [List.length_cons] at hl
    obtain ⟨ρ', e1, e2, e3⟩ := (h d List.mem_cons_self).ex
    rw [List.map_cons]
    show ((M.opt (assignT tg (wipeR ρ own) (.dat d))).bind _ : M (List PyData)).bind _ = _
    rw [e1, M.opt_some, M.ret_bind, e2, M.ret_bind]
    cases hp : p d with
    | true =>
      rw [if_pos rfl, e3 hp, M.ret_bind]
      show (if acc.length < 16777216 then M.ret (acc ++ [g d]) else M.no : M (List PyData)).bind _ = _
      rw [if_pos (by omega), M.ret_bind, loopL ds _ (fun x hx => h x (List.mem_cons_of_mem _ hx)) (by rw [List.length_append]; simp; omega), List.filter_cons, if_pos hp]
      simp
    | false =>
      rw [if_neg Bool.false_ne_true, M.ret_bind, loopL ds _ (fun x hx => h x (List.mem_cons_of_mem _ hx)) (by omega), List.filter_cons, if_neg (by rw [hp]; simp)]
abbrev turnK (C : Nat → List D → M D) (ρ : Rho) (own : List Nat) (tg : Tg) (cond : Ox) (e : Ex) : D → List (PyData × PyData) → M (List (PyData × PyData)) := fun x acc => (M.opt (assignT tg (wipeR ρ own) x)).bind fun ρ' => (denc C cond ρ').bind fun b =>
      if b = true then (den C e ρ').bind fun y => (match y with
        | .dat d => if keyOk8 d && decide (acc.length < 16777216) then .ret (dput acc d (.bool true)) else .no
        | _ => .no) else .ret acc
theorem loopK {p : PyData → Bool} {g : PyData → PyData} : ∀ (ds acc : List PyData), (∀ d ∈ ds, Turn C ρ own tg cond e d (p d) (g d)) → (∀ d ∈ ds, p d = true → keyOk8 (g d) = true) → acc.length + ds.length ≤ 16777216 → loopC (turnK C ρ own tg cond e) (ds.map .dat) (trues acc) = .ret (trues (((ds.filter p).map g).foldl sput acc))
  | [], acc, _, _, _ => by simp [loopC]
  | d :: ds, acc, h, hk, hl => by
    rw [List.length_cons] at hl
    obtain ⟨ρ', e1, e2, e3⟩ := (h d List.mem_cons_self).ex
    rw [List.map_cons]
    show ((M.opt (assignT tg (wipeR ρ own) (.dat d))).bind _ : M (List (PyData × PyData))).bind _ = _
    rw [e1, M.opt_some, M.ret_bind, e2, M.ret_bind]
    cases hp : p d with
    | true =>
      have hs := sput_len acc (g d)
      rw [if_pos rfl, e3 hp, M.ret_bind]
      show (if (keyOk8 (g d) && decide ((trues acc).length < 16777216)) = true then M.ret (dput (trues acc) (g d) (.bool true)) else M.no : M (List (PyData × PyData))).bind _ = _
      rw [if_pos (by rw [hk d List.mem_cons_self hp, trues_len, decide_eq_true (show acc.length < 16777216 by omega)]; rfl), M.ret_bind, dput_trues, loopK ds _ (fun x hx => h x (List.mem_cons_of_mem _ hx)) (fun x hx => hk x (List.mem_cons_of_mem _ hx)) (by omega), List.filter_cons, if_pos hp]
      rfl
    | false =>
      rw [if_neg Bool.false_ne_true, M.ret_bind, loopK ds _ (fun x hx => h x (List.mem_cons_of_mem _ hx)) (fun x hx => hk x (List.mem_cons_of_mem _ hx)) (by omega), List.filter_cons, if_neg (by rw [hp]; simp)]
/-- the outer item, the inner walk -/
structure Turn2 (C : Nat → List D → M D) (ρ : Rho) (own : List Nat) (tg tg2 : Tg) (it2 : It) (cond2 : Ox) (e : Ex) (d : PyData) (ys : List PyData) (p : PyData → Bool) (g : PyData → PyData) : Prop where
  ex : ∃ ρ', assignT tg (wipeR ρ own) (.dat d) = some ρ' ∧ denIt C it2 ρ' = .ret (ys.map .dat) ∧ ∀ y ∈ ys, Turn C ρ' (tgIds tg2) tg2 cond2 e y (p y) (g y)
theorem lc2_pure {o2 : List Nat} {ds : List PyData} {ys : PyData → List PyData} {p : PyData → Bool} {g : PyData → PyData} {n : Nat} (hit : denIt C it ρ = .ret (ds.map .dat)) (ht : ∀ d ∈ ds, Turn2 C ρ own tg tg2 it2 cond2 e d (ys d) p g) (hy : ∀ d ∈ ds, (ys d).length ≤ n) (hl : ds.length * n ≤ 16777216) :
    den C (.lc2 e (.mk own tg it .none) (.mk o2 tg2 it2 cond2)) ρ = .ret (.dat (.list (ds.flatMap fun d => ((ys d).filter p).map g))) := by
  show ((denIt C it ρ).bind fun xs => (quiet (loopC (fun x acc => (M.opt (assignT tg (wipeR ρ own) x)).bind fun ρ' => (denc C .none ρ').bind fun b =>
      if b = true then (denIt C it2 ρ').bind fun xs2 => loopC (turnL C ρ' (tgIds tg2) tg2 cond2 e) xs2 acc else .ret acc) xs [])).bind fun acc => (M.ret (D.dat (.list acc)) : M D)) = _
  rw [hit, M.ret_bind]
  have key : ∀ (ds acc : List PyData), (∀ d ∈ ds, Turn2 C ρ own tg tg2 it2 cond2 e d (ys d) p g) → (∀ d ∈ ds, (ys d).length ≤ n) → acc.length + ds.length * n ≤ 16777216 → loopC (fun x acc => (M.opt (assignT tg (wipeR ρ own) x)).bind fun ρ' => (denc C .none ρ').bind fun b =>
      if b = true then (denIt C it2 ρ').bind fun xs2 => loopC (turnL C ρ' (tgIds tg2) tg2 cond2 e) xs2 acc else .ret acc) (ds.map .dat) acc = (.ret (acc ++ ds.flatMap fun d => ((ys d).filter p).map g) : M (List PyData)) := by
    intro ds
    induction ds with
    | nil => intro acc _ _ _; simp [loopC]
    | cons d ds ih =>
      intro acc h hy hl
      rw [List.length_cons, Nat.succ_mul] at hl
      obtain ⟨ρ', e1, e2, e3⟩ := (h d List.mem_cons_self).ex
      have hyd := hy d List.mem_cons_self
      rw [List.map_cons]
      show ((M.opt (assignT tg (wipeR ρ own) (.dat d))).bind _ : M (List PyData)).bind _ = _
      rw [e1, M.opt_some, M.ret_bind, denc_none, M.ret_bind, if_pos rfl, e2, M.ret_bind, loopL (ys d) acc e3 (by omega), M.ret_bind, ih _ (fun x hx => h x (List.mem_cons_of_mem _ hx)) (fun x hx => hy x (List.mem_cons_of_mem _ hx)) (by
        rw [List.length_append, List.length_map]
        have := List.length_filter_le p (ys d)
        omega), List.flatMap_cons, List.append_assoc]
  rw [key ds [] ht hy (by simpa using hl), quiet_ret, M.ret_bind]
  rfl
theorem dc2_pure {o2 : List Nat} {ds : List PyData} {ys : PyData → List PyData} {p : PyData → Bool} {g : PyData → PyData} {n : Nat} (hit : denIt C it ρ = .ret (ds.map .dat)) (ht : ∀ d ∈ ds, Turn2 C ρ own tg tg2 it2 cond2 e d (ys d) p g) (hk : ∀ d ∈ ds, ∀ y ∈ ys d, p y = true → keyOk8 (g y) = true) (hy : ∀ d ∈ ds, (ys d).length ≤ n) (hl : ds.length * n ≤ 16777216) :
    den C (.dc2 e (.mk own tg it .none) (.mk o2 tg2 it2 cond2)) ρ = .ret (.dic (trues ((ds.flatMap fun d => ((ys d).filter p).map g).foldl sput []))) := by
  show ((denIt C it ρ).bind fun xs => (quiet (loopC (fun x acc => (M.opt (assignT tg (wipeR ρ own) x)).bind fun ρ' => (denc C .none ρ').bind fun b =>
      if b = true then (denIt C it2 ρ').bind fun xs2 => loopC (turnK C ρ' (tgIds tg2) tg2 cond2 e) xs2 acc else .ret acc) xs [])).bind fun acc => (M.ret (D.dic acc) : M D)) = _
  rw [hit, M.ret_bind]
  have key : ∀ (ds acc : List PyData), (∀ d ∈ ds, Turn2 C ρ own tg tg2 it2 cond2 e d (ys d) p g) → (∀ d ∈ ds, ∀ y ∈ ys d, p y = true → keyOk8 (g y) = true) → (∀ d ∈ ds, (ys d).length ≤ n) → acc.length + ds.length * n ≤ 16777216 → loopC (fun x acc => (M.opt (assignT tg (wipeR ρ own) x)).bind fun ρ' => (denc C .none ρ').bind fun b =>
      if b = true then (denIt C it2 ρ').bind fun xs2 => loopC (turnK C ρ' (tgIds tg2) tg2 cond2 e) xs2 acc else .ret acc) (ds.map .dat) (trues acc) = (.ret (trues ((ds.flatMap fun d => ((ys d).filter p).map g).foldl sput acc)) : M (List (PyData × PyData))) := by
    intro ds
    induction ds with
    | nil => intro acc _ _ _ _; simp [loopC]
    | cons d ds ih =>
      intro acc h hk hy hl
      rw [List.length_cons, Nat.succ_mul] at hl
      obtain ⟨ρ', e1, e2, e3⟩ := (h d List.mem_cons_self).ex
      have hyd := hy d List.mem_cons_self
      have hsp : ∀ (l acc : List PyData), (l.foldl sput acc).length ≤ acc.length + l.length := by
        intro l
        induction l with
        | nil => intro acc; exact Nat.le_refl _
        | cons a l ih =>
          intro acc
          rw [List.foldl_cons, List.length_cons]
          have := ih (sput acc a)
          have := sput_len acc a
          omega
      rw [List.map_cons]
      show ((M.opt (assignT tg (wipeR ρ own) (.dat d))).bind _ : M (List (PyData × PyData))).bind _ = _
      rw [e1, M.opt_some, M.ret_bind, denc_none, M.ret_bind, if_pos rfl, e2, M.ret_bind, loopK (ys d) acc e3 (hk d List.mem_cons_self) (by omega), M.ret_bind, ih _ (fun x hx => h x (List.mem_cons_of_mem _ hx)) (fun x hx => hk x (List.mem_cons_of_mem _ hx)) (fun x hx => hy x (List.mem_cons_of_mem _ hx)) (by
        have h1 := hsp (((ys d).filter p).map g) acc
        rw [List.length_map] at h1
        have := List.length_filter_le p (ys d)
        omega), List.flatMap_cons, List.foldl_append]
  have k0 := key ds [] ht hk hy (by simpa using hl)
  rw [show (trues []) = [] from rfl] at k0
  rw [k0, quiet_ret, M.ret_bind]
end
end DL
end
section
set_option Elab.async false
set_option linter.all false
set_option maxRecDepth 100000
/-! The law k01, plain: names, terms and their keys. -/
namespace K01
open PySem DL
def nm8 : List Str := ["a", "b", "town", "x9", "a2345678", "counts", "groups", "vars"]
def valsL : List PyData := [.int 0, .int 1, .int 2, .int (-3), .int 12] ++ nm8.map .str
def varsL : List PyData := nm8.map fun s => .tuple [.str "var", .str s]
def termsL : List PyData := valsL ++ varsL
def keyT : PyData → PyData
  | .int i => .tuple [.int 0, .int i, .str ""]
  | .str s => .tuple [.int 1, .int 0, .str s]
  | .tuple [_, s] => .tuple [.int 2, .int 0, s]
  | _ => .none
def isVarD : PyData → Bool
  | .tuple _ => true
  | _ => false

theorem value_key (k : Nat) : ∀ t ∈ termsL, callN TT (k + 3) 4 [.dat t] = M.ret (.dat (keyT t)) := by ((
  simp only [termsL, valsL, varsL, nm8, List.map_cons, List.map_nil, List.cons_append, List.nil_append, List.forall_mem_cons]
  refine ⟨?_, ?_, ?_, ?_, ?_, ?_, ?_, ?_, ?_, ?_, ?_, ?_, ?_, ?_, ?_, ?_, ?_, ?_, ?_, ?_, ?_, ?_⟩
  all_goals first | kernel_rfl | exact fun _ h => nomatch h))
theorem is_var (k : Nat) : ∀ t ∈ termsL, callN TT (k + 2) 3 [.dat t] = M.ret (.dat (.bool (isVarD t))) := by ((
  simp only [termsL, valsL, varsL, nm8, List.map_cons, List.map_nil, List.cons_append, List.nil_append, List.forall_mem_cons]
  refine ⟨?_, ?_, ?_, ?_, ?_, ?_, ?_, ?_, ?_, ?_, ?_, ?_, ?_, ?_, ?_, ?_, ?_, ?_, ?_, ?_, ?_, ?_⟩
  all_goals first | kernel_rfl | exact fun _ h => nomatch h))
theorem law_key (k : Nat) : ∀ t ∈ termsL, callN TT (k + 1) 22 [.dat t] = M.ret (.dat (keyT t)) := by ((
  simp only [termsL, valsL, varsL, nm8, List.map_cons, List.map_nil, List.cons_append, List.nil_append, List.forall_mem_cons]
  refine ⟨?_, ?_, ?_, ?_, ?_, ?_, ?_, ?_, ?_, ?_, ?_, ?_, ?_, ?_, ?_, ?_, ?_, ?_, ?_, ?_, ?_, ?_⟩
  all_goals first | kernel_rfl | exact fun _ h => nomatch h))
theorem vals_sub : ∀ t ∈ valsL, t ∈ termsL := fun t h => List.mem_append_left _ h
theorem term_alike : ∀ t ∈ termsL, ∀ t' ∈ termsL, PySem.W.alike (keyT t) (keyT t') = true := by decide +kernel
theorem term_inj0 : ∀ t ∈ termsL, ∀ t' ∈ termsL, (PyData.eqv (keyT t) (keyT t') = true → PyData.eqv t t' = true) := by decide +kernel
theorem term_ok : ∀ t ∈ termsL, okB 1 25 t = true ∧ keyOk8 t = true ∧ okB 1 25 (keyT t) = true ∧ notNone (keyT t) = true := by decide +kernel
theorem term_clean {t : PyData} (h : t ∈ termsL) : clean t = true := (ok_of (term_ok t h).1).cl
theorem goodT : Good keyT (· ∈ termsL) where
  clean := fun x h => term_clean h
  alike := fun x y hx hy => term_alike x hx y hy
  dep := fun x h => ⟨Nat.le_trans (ok_of (term_ok x h).2.2.1).dep (by decide), (term_ok x h).2.2.2⟩
  inj := fun x y hx hy e => eqv_clean (term_clean hx) (term_clean hy) (term_inj0 x hx y hy e)
/-! facts -/
def isFact (d : PyData) : Prop := ∃ (s : Str) (ts : List PyData), d = .tuple [.str s, .tuple ts] ∧ s ∈ nm8 ∧ (∀ t ∈ ts, t ∈ termsL) ∧ ts.length ≤ 3
def factK : PyData → PyData
  | .tuple [s, .tuple ts] => .tuple [s, .tuple (ts.map keyT)]
  | _ => .none
theorem name_ok : ∀ s ∈ nm8, okB 0 25 (.str s) = true ∧ keyOk8 (.str s) = true := by decide +kernel
theorem alikeAll_map : ∀ (ts us : List PyData), (∀ t ∈ ts, t ∈ termsL) → (∀ t ∈ us, t ∈ termsL) → PySem.W.alikeAll (ts.map keyT) (us.map keyT) = true
  | [], us, _, _ => by simp [PySem.W.alikeAll]
  | t :: ts, [], _, _ => by simp [PySem.W.alikeAll]
  | t :: ts, u :: us, h1, h2 => by
    simp only [List.map_cons, PySem.W.alikeAll, Bool.and_eq_true]
    exact ⟨term_alike t (h1 t List.mem_cons_self) u (h2 u List.mem_cons_self), alikeAll_map ts us (fun x hx => h1 x (List.mem_cons_of_mem _ hx)) fun x hx => h2 x (List.mem_cons_of_mem _ hx)⟩
theorem inj_map : ∀ (ts us : List PyData), (∀ t ∈ ts, t ∈ termsL) → (∀ t ∈ us, t ∈ termsL) → PyData.eqvAll (ts.map keyT) (us.map keyT) = true → ts = us
  | [], [], _, _, _ => rfl
  | [], _ :: _, _, _, e => by cases e
  | _ :: _, [], _, _, e => by cases e
  | t :: ts, u :: us, h1, h2, e => by
    have e' : (PyData.eqv (keyT t) (keyT u) && PyData.eqvAll (ts.map keyT) (us.map keyT)) = true := e
    rw [Bool.and_eq_true] at e'
    rw [goodT.inj t u (h1 t List.mem_cons_self) (h2 u List.mem_cons_self) e'.1, inj_map ts us (fun x hx => h1 x (List.mem_cons_of_mem _ hx)) (fun x hx => h2 x (List.mem_cons_of_mem _ hx)) e'.2]
theorem fact_ok {d : PyData} (h : isFact d) : Ok 3 180 d := by
  obtain ⟨s, ts, rfl, hs, ht, hl⟩ := h
  have h1 : Ok 2 85 (.tuple ts) := (Ok.tuple fun t q => ok_of (term_ok t (ht t q)).1).mono (Nat.le_refl _) (by have : ts.length * (25 + 2) ≤ 3 * 27 := Nat.mul_le_mul_right _ hl; omega)
  have h2 : Ok 2 70 (.str s) := (ok_of (name_ok s hs).1).mono (by omega) (by omega)
  refine (Ok.tuple (n := 2) (w := 85) (xs := [.str s, .tuple ts]) fun x hx => ?_).mono (Nat.le_refl _) (by simp)
  simp only [List.mem_cons, List.not_mem_nil, or_false] at hx
  rcases hx with rfl | rfl
  · exact h2.mono (Nat.le_refl _) (by omega)
  · exact h1
theorem keyOks_all : ∀ {ts : List PyData}, (∀ t ∈ ts, keyOk t = true) → keyOk.keyOks ts = true
  | [], _ => rfl
  | t :: ts, h => by
    show (keyOk t && keyOk.keyOks ts) = true
    rw [h t List.mem_cons_self, keyOks_all fun x hx => h x (List.mem_cons_of_mem _ hx)]; rfl
theorem key8_split {d : PyData} (h : keyOk8 d = true) : keyOk d = true := by
  unfold keyOk8 at h
  rw [Bool.and_eq_true] at h
  exact h.1
theorem fact_key8 {d : PyData} (h : isFact d) : keyOk8 d = true := by
  have hd := (fact_ok h).dep
  obtain ⟨s, ts, rfl, hs, ht, hl⟩ := h
  unfold keyOk8
  rw [decide_eq_true (Nat.le_trans hd (by decide)), Bool.and_true]
  exact keyOks_all fun t q => key8_split (by
    simp only [List.mem_cons, List.not_mem_nil, or_false] at q
    rcases q with rfl | rfl
    · exact (name_ok s hs).2
    · unfold keyOk8
      have h1 : Ok 2 85 (.tuple ts) := (Ok.tuple fun t q => ok_of (term_ok t (ht t q)).1).mono (Nat.le_refl _) (by have : ts.length * (25 + 2) ≤ 3 * 27 := Nat.mul_le_mul_right _ hl; omega)
      rw [decide_eq_true (Nat.le_trans h1.dep (by decide)), Bool.and_true]
      exact keyOks_all fun t q => key8_split (term_ok t (ht t q)).2.1)
theorem depthAll_le {n : Nat} : ∀ {xs : List PyData}, (∀ x ∈ xs, x.depth ≤ n) → PyData.depthAll xs ≤ n
  | [], _ => by simp [PyData.depthAll]
  | x :: xs, h => by
    simp only [PyData.depthAll]
    exact Nat.max_le.mpr ⟨h x List.mem_cons_self, depthAll_le fun y hy => h y (List.mem_cons_of_mem _ hy)⟩
theorem goodF : Good factK isFact where
  clean := fun x h => (fact_ok h).cl
  alike := by
    rintro x y ⟨s, ts, rfl, hs, ht, hl⟩ ⟨s', ts', rfl, hs', ht', hl'⟩
    simp only [factK, PySem.W.alike, PySem.W.alikeAll, Bool.and_true, Bool.true_and]
    exact alikeAll_map ts ts' ht ht'
  dep := by
    rintro x ⟨s, ts, rfl, hs, ht, hl⟩
    refine ⟨?_, rfl⟩
    have h1 : PyData.depthAll (ts.map keyT) ≤ 1 := depthAll_le fun x hx => by
      obtain ⟨t, q, rfl⟩ := List.mem_map.mp hx
      exact (ok_of (term_ok t (ht t q)).2.2.1).dep
    simp only [factK, PyData.depth, PyData.depthAll]
    omega
  inj := by
    rintro x y ⟨s, ts, rfl, hs, ht, hl⟩ ⟨s', ts', rfl, hs', ht', hl'⟩ e
    have e' : ((s == s') && (PyData.eqvAll (ts.map keyT) (ts'.map keyT) && true)) = true := e
    rw [Bool.and_eq_true, Bool.and_true] at e'
    rw [eq_of_beq e'.1, inj_map ts ts' ht ht' e'.2]
theorem tupIt {a b : PyData} : (2 : Nat) = [a, b].length := rfl
theorem fact_key (k : Nat) (d : PyData) (h : isFact d) : callN TT (k + 4) 5 [.dat d] = M.ret (.dat (factK d)) := by
  obtain ⟨s, ts, rfl, hs, ht, hl⟩ := h
  rw [call_step (f := ⟨2, 1, b5⟩) rfl, run_at (n := 2) (p := 1) (by rfl)]
  unfold b5
  (simp only [at_0, at_1, sz0, sz1, sz2, sz3, sz4, sz5, sz6, sz7, sz8, den_neg, den_c, den_v, den_g, den_tup, den_lst, den_bin, den_neg, den_cmp, den_and, den_or, den_not, den_ite, den_ix, den_sl, den_call, den_bi, den_isi, den_get2, dens_nil, dens_cons, deno_none, deno_some, denc_none, denc_some, denIt_seq, denS_set, denS_par, denS_ret, denS_ex, denS_ite, denSs_nil, denSs_cons, rdD_dat, tru_b, tru_i, tru_l, add_i, sub_i, mul_i, fdiv_i, mod_i, add_t, add_l, cmp_eq, cmp_ne, cmp_lt, cmp_ge, cmp_gt, ix_l, ix_t, ix_m, sl_l, bi_tuple_l, bi_list_t, bi_list_l, bi_len_l, bi_len_t, bi_int_i, items_l, items_t, isi_tt, isi_it, isi_st, asInt_i, datAll_nil, datAll_cons, shaped_i, M.ret_bind, M.bind_assoc, M.opt_some, M.rd_const, quiet_ret, List.map_cons, List.map_nil, List.replicate, List.cons_append, List.nil_append, List.getElem?_cons_zero, List.getElem?_cons_succ, join_ss, Option.map_some, Option.bind_some, List.set_cons_zero, List.set_cons_succ, List.length_cons, List.length_nil, ↓reduceIte, Bool.false_eq_true, Bool.not_true, Bool.not_false, Bool.and_self])
  rw [lc_all (ds := ts) (g := keyT)]
  · (simp only [at_0, at_1, sz0, sz1, sz2, sz3, sz4, sz5, sz6, sz7, sz8, den_neg, den_c, den_v, den_g, den_tup, den_lst, den_bin, den_neg, den_cmp, den_and, den_or, den_not, den_ite, den_ix, den_sl, den_call, den_bi, den_isi, den_get2, dens_nil, dens_cons, deno_none, deno_some, denc_none, denc_some, denIt_seq, denS_set, denS_par, denS_ret, denS_ex, denS_ite, denSs_nil, denSs_cons, rdD_dat, tru_b, tru_i, tru_l, add_i, sub_i, mul_i, fdiv_i, mod_i, add_t, add_l, cmp_eq, cmp_ne, cmp_lt, cmp_ge, cmp_gt, ix_l, ix_t, ix_m, sl_l, bi_tuple_l, bi_list_t, bi_list_l, bi_len_l, bi_len_t, bi_int_i, items_l, items_t, isi_tt, isi_it, isi_st, asInt_i, datAll_nil, datAll_cons, shaped_i, M.ret_bind, M.bind_assoc, M.opt_some, M.rd_const, quiet_ret, List.map_cons, List.map_nil, List.replicate, List.cons_append, List.nil_append, List.getElem?_cons_zero, List.getElem?_cons_succ, join_ss, Option.map_some, Option.bind_some, List.set_cons_zero, List.set_cons_succ, List.length_cons, List.length_nil, ↓reduceIte, Bool.false_eq_true, Bool.not_true, Bool.not_false, Bool.and_self]); rfl
  · rfl
  · exact fun t q => ⟨_, rfl, value_key k t (ht t q)⟩
  · omega
/-- the law's own key of a fact -/
theorem law_fact_key (k : Nat) (d : PyData) (h : isFact d) : callN TT (k + 2) 23 [.dat d] = M.ret (.dat (factK d)) := by
  obtain ⟨s, ts, rfl, hs, ht, hl⟩ := h
  rw [call_step (f := ⟨2, 1, b23⟩) rfl, run_at (n := 2) (p := 1) (by rfl)]
  unfold b23
  (simp only [at_0, at_1, sz0, sz1, sz2, sz3, sz4, sz5, sz6, sz7, sz8, den_neg, den_c, den_v, den_g, den_tup, den_lst, den_bin, den_neg, den_cmp, den_and, den_or, den_not, den_ite, den_ix, den_sl, den_call, den_bi, den_isi, den_get2, dens_nil, dens_cons, deno_none, deno_some, denc_none, denc_some, denIt_seq, denS_set, denS_par, denS_ret, denS_ex, denS_ite, denSs_nil, denSs_cons, rdD_dat, tru_b, tru_i, tru_l, add_i, sub_i, mul_i, fdiv_i, mod_i, add_t, add_l, cmp_eq, cmp_ne, cmp_lt, cmp_ge, cmp_gt, ix_l, ix_t, ix_m, sl_l, bi_tuple_l, bi_list_t, bi_list_l, bi_len_l, bi_len_t, bi_int_i, items_l, items_t, isi_tt, isi_it, isi_st, asInt_i, datAll_nil, datAll_cons, shaped_i, M.ret_bind, M.bind_assoc, M.opt_some, M.rd_const, quiet_ret, List.map_cons, List.map_nil, List.replicate, List.cons_append, List.nil_append, List.getElem?_cons_zero, List.getElem?_cons_succ, join_ss, Option.map_some, Option.bind_some, List.set_cons_zero, List.set_cons_succ, List.length_cons, List.length_nil, ↓reduceIte, Bool.false_eq_true, Bool.not_true, Bool.not_false, Bool.and_self])
  rw [lc_all (ds := ts) (g := keyT)]
  · (simp only [at_0, at_1, sz0, sz1, sz2, sz3, sz4, sz5, sz6, sz7, sz8, den_neg, den_c, den_v, den_g, den_tup, den_lst, den_bin, den_neg, den_cmp, den_and, den_or, den_not, den_ite, den_ix, den_sl, den_call, den_bi, den_isi, den_get2, dens_nil, dens_cons, deno_none, deno_some, denc_none, denc_some, denIt_seq, denS_set, denS_par, denS_ret, denS_ex, denS_ite, denSs_nil, denSs_cons, rdD_dat, tru_b, tru_i, tru_l, add_i, sub_i, mul_i, fdiv_i, mod_i, add_t, add_l, cmp_eq, cmp_ne, cmp_lt, cmp_ge, cmp_gt, ix_l, ix_t, ix_m, sl_l, bi_tuple_l, bi_list_t, bi_list_l, bi_len_l, bi_len_t, bi_int_i, items_l, items_t, isi_tt, isi_it, isi_st, asInt_i, datAll_nil, datAll_cons, shaped_i, M.ret_bind, M.bind_assoc, M.opt_some, M.rd_const, quiet_ret, List.map_cons, List.map_nil, List.replicate, List.cons_append, List.nil_append, List.getElem?_cons_zero, List.getElem?_cons_succ, join_ss, Option.map_some, Option.bind_some, List.set_cons_zero, List.set_cons_succ, List.length_cons, List.length_nil, ↓reduceIte, Bool.false_eq_true, Bool.not_true, Bool.not_false, Bool.and_self]); rfl
  · rfl
  · exact fun t q => ⟨_, rfl, law_key k t (ht t q)⟩
  · omega
/-- what the three ascending ones share -/
theorem asc_body {C : Nat → List D → M D} {f : Nat} {g : PyData → PyData} {G : PyData → Prop} {x : D} {xs : List PyData} {ρ : Rho} (W : Good g G) (hx : ρ[0]? = some (some x)) (h1 : 1 < ρ.length) (hi : ∀ h, itemsD h x = some (xs.map .dat)) (hG : ∀ d ∈ xs, G d) (h8 : ∀ d ∈ xs, keyOk8 d = true) (hf : ∀ d, G d → C f [.dat d] = .ret (.dat (g d))) (hl : xs.length ≤ 16777216) :
    den C (.srtf (.dc (.v 1) (.mk [1] (.name 1) (.seq (.v 0)) .none)) f) ρ = .ret (.dat (.list (ascL g xs))) := by
  have e := dc_all (C := C) (ρ := ρ) (own := [1]) (tg := .name 1) (it := .seq (.v 0)) (e := .v 1) (ds := xs) (g := id) (by
    rw [denIt_seq, den_v, hx]
    show (M.rd fun h => itemsD h x) = _
    rw [show (fun h => itemsD h x) = fun _ => some (xs.map .dat) from funext hi, M.rd_const]) (fun d hd => ⟨_, rfl, by
    rw [den_v, List.getElem?_set_self (by show 1 < (wipeR ρ [1]).length; show 1 < (ρ.set 1 none).length; rw [List.length_set]; exact h1)]; rfl⟩) h8 hl
  rw [List.map_id] at e
  have hd : ∀ d ∈ dd xs, G d := fun d q => hG d ((dd_mem W hG d).mp q)
  refine srtf_pure W e (fun h => ?_) hd (fun d q => hf d (hd d q)) ?_
  · show some ((trues (xs.foldl sput [])).map (·.1)) = _
    rw [trues_keys]; rfl
  · refine Nat.le_trans ?_ hl
    have : ∀ (l acc : List PyData), (l.foldl sput acc).length ≤ acc.length + l.length := by
      intro l
      induction l with
      | nil => intro acc; exact Nat.le_refl _
      | cons a l ih =>
        intro acc
        rw [List.foldl_cons, List.length_cons]
        have := ih (sput acc a)
        have := sput_len acc a
        omega
    have := this xs []
    show (xs.foldl sput []).length ≤ _
    simpa using this
theorem asc_facts (k : Nat) (x : D) (xs : List PyData) (hi : ∀ h, itemsD h x = some (xs.map .dat)) (hG : ∀ d ∈ xs, isFact d) (hl : xs.length ≤ 1000) : callN TT (k + 5) 7 [x] = M.ret (.dat (.tuple (ascL factK xs))) := by
  rw [call_step (f := ⟨2, 1, b7⟩) rfl, run_at (n := 2) (p := 1) (by rfl)]
  unfold b7
  (simp only [at_0, at_1, sz0, sz1, sz2, sz3, sz4, sz5, sz6, sz7, sz8, den_neg, den_c, den_v, den_g, den_tup, den_lst, den_bin, den_neg, den_cmp, den_and, den_or, den_not, den_ite, den_ix, den_sl, den_call, den_bi, den_isi, den_get2, dens_nil, dens_cons, deno_none, deno_some, denc_none, denc_some, denIt_seq, denS_set, denS_par, denS_ret, denS_ex, denS_ite, denSs_nil, denSs_cons, rdD_dat, tru_b, tru_i, tru_l, add_i, sub_i, mul_i, fdiv_i, mod_i, add_t, add_l, cmp_eq, cmp_ne, cmp_lt, cmp_ge, cmp_gt, ix_l, ix_t, ix_m, sl_l, bi_tuple_l, bi_list_t, bi_list_l, bi_len_l, bi_len_t, bi_int_i, items_l, items_t, isi_tt, isi_it, isi_st, asInt_i, datAll_nil, datAll_cons, shaped_i, M.ret_bind, M.bind_assoc, M.opt_some, M.rd_const, quiet_ret, List.map_cons, List.map_nil, List.replicate, List.cons_append, List.nil_append, List.getElem?_cons_zero, List.getElem?_cons_succ, join_ss, Option.map_some, Option.bind_some, List.set_cons_zero, List.set_cons_succ, List.length_cons, List.length_nil, ↓reduceIte, Bool.false_eq_true, Bool.not_true, Bool.not_false, Bool.and_self])
  rw [asc_body goodF rfl (by simp) hi hG (fun d q => fact_key8 (hG d q)) (fun d q => fact_key k d q) (by omega)]
  (simp only [at_0, at_1, sz0, sz1, sz2, sz3, sz4, sz5, sz6, sz7, sz8, den_neg, den_c, den_v, den_g, den_tup, den_lst, den_bin, den_neg, den_cmp, den_and, den_or, den_not, den_ite, den_ix, den_sl, den_call, den_bi, den_isi, den_get2, dens_nil, dens_cons, deno_none, deno_some, denc_none, denc_some, denIt_seq, denS_set, denS_par, denS_ret, denS_ex, denS_ite, denSs_nil, denSs_cons, rdD_dat, tru_b, tru_i, tru_l, add_i, sub_i, mul_i, fdiv_i, mod_i, add_t, add_l, cmp_eq, cmp_ne, cmp_lt, cmp_ge, cmp_gt, ix_l, ix_t, ix_m, sl_l, bi_tuple_l, bi_list_t, bi_list_l, bi_len_l, bi_len_t, bi_int_i, items_l, items_t, isi_tt, isi_it, isi_st, asInt_i, datAll_nil, datAll_cons, shaped_i, M.ret_bind, M.bind_assoc, M.opt_some, M.rd_const, quiet_ret, List.map_cons, List.map_nil, List.replicate, List.cons_append, List.nil_append, List.getElem?_cons_zero, List.getElem?_cons_succ, join_ss, Option.map_some, Option.bind_some, List.set_cons_zero, List.set_cons_succ, List.length_cons, List.length_nil, ↓reduceIte, Bool.false_eq_true, Bool.not_true, Bool.not_false, Bool.and_self])
theorem asc_terms (k : Nat) (x : D) (xs : List PyData) (hi : ∀ h, itemsD h x = some (xs.map .dat)) (hG : ∀ d ∈ xs, d ∈ termsL) (hl : xs.length ≤ 1000) : callN TT (k + 4) 10 [x] = M.ret (.dat (.tuple (ascL keyT xs))) := by
  rw [call_step (f := ⟨2, 1, b10⟩) rfl, run_at (n := 2) (p := 1) (by rfl)]
  unfold b10
  (simp only [at_0, at_1, sz0, sz1, sz2, sz3, sz4, sz5, sz6, sz7, sz8, den_neg, den_c, den_v, den_g, den_tup, den_lst, den_bin, den_neg, den_cmp, den_and, den_or, den_not, den_ite, den_ix, den_sl, den_call, den_bi, den_isi, den_get2, dens_nil, dens_cons, deno_none, deno_some, denc_none, denc_some, denIt_seq, denS_set, denS_par, denS_ret, denS_ex, denS_ite, denSs_nil, denSs_cons, rdD_dat, tru_b, tru_i, tru_l, add_i, sub_i, mul_i, fdiv_i, mod_i, add_t, add_l, cmp_eq, cmp_ne, cmp_lt, cmp_ge, cmp_gt, ix_l, ix_t, ix_m, sl_l, bi_tuple_l, bi_list_t, bi_list_l, bi_len_l, bi_len_t, bi_int_i, items_l, items_t, isi_tt, isi_it, isi_st, asInt_i, datAll_nil, datAll_cons, shaped_i, M.ret_bind, M.bind_assoc, M.opt_some, M.rd_const, quiet_ret, List.map_cons, List.map_nil, List.replicate, List.cons_append, List.nil_append, List.getElem?_cons_zero, List.getElem?_cons_succ, join_ss, Option.map_some, Option.bind_some, List.set_cons_zero, List.set_cons_succ, List.length_cons, List.length_nil, ↓reduceIte, Bool.false_eq_true, Bool.not_true, Bool.not_false, Bool.and_self])
  rw [asc_body goodT rfl (by simp) hi hG (fun d q => (term_ok d (hG d q)).2.1) (fun d q => value_key k d q) (by omega)]
  (simp only [at_0, at_1, sz0, sz1, sz2, sz3, sz4, sz5, sz6, sz7, sz8, den_neg, den_c, den_v, den_g, den_tup, den_lst, den_bin, den_neg, den_cmp, den_and, den_or, den_not, den_ite, den_ix, den_sl, den_call, den_bi, den_isi, den_get2, dens_nil, dens_cons, deno_none, deno_some, denc_none, denc_some, denIt_seq, denS_set, denS_par, denS_ret, denS_ex, denS_ite, denSs_nil, denSs_cons, rdD_dat, tru_b, tru_i, tru_l, add_i, sub_i, mul_i, fdiv_i, mod_i, add_t, add_l, cmp_eq, cmp_ne, cmp_lt, cmp_ge, cmp_gt, ix_l, ix_t, ix_m, sl_l, bi_tuple_l, bi_list_t, bi_list_l, bi_len_l, bi_len_t, bi_int_i, items_l, items_t, isi_tt, isi_it, isi_st, asInt_i, datAll_nil, datAll_cons, shaped_i, M.ret_bind, M.bind_assoc, M.opt_some, M.rd_const, quiet_ret, List.map_cons, List.map_nil, List.replicate, List.cons_append, List.nil_append, List.getElem?_cons_zero, List.getElem?_cons_succ, join_ss, Option.map_some, Option.bind_some, List.set_cons_zero, List.set_cons_succ, List.length_cons, List.length_nil, ↓reduceIte, Bool.false_eq_true, Bool.not_true, Bool.not_false, Bool.and_self])
end K01
end
section
set_option Elab.async false
set_option linter.all false
set_option maxRecDepth 100000
/-! The law k01, plain: what is drawn. -/
namespace K01
open PySem DL
variable {l : Nat}
theorem take (k : Nat) (many : Int) (hm : 0 < many) (hm2 : many < 1073741824) : S l (fun x => ∃ r : Int, x = .dat (.int r) ∧ 0 ≤ r ∧ r < many) (callN TT (k + 1) 14 [.mut l, .dat (.int many)]) := fun h B => by
  rw [call_step (f := ⟨7, 2, b14⟩) rfl]
  obtain ⟨r, h', e, q, b, f⟩ := take_run (C := callN TT k) B many hm hm2
  exact ⟨_, h', e, ⟨r, rfl, q⟩, b, f⟩
theorem atI_ok {xs : List PyData} {r : Int} (h0 : 0 ≤ r) (h1 : r < xs.length) : ∃ d ∈ xs, L2.atI xs r = some d := by
  have hl : r.toNat < xs.length := by omega
  refine ⟨xs[r.toNat], List.getElem_mem hl, ?_⟩
  unfold L2.atI L2.ixN
  rw [if_pos h0, if_pos h1, Option.bind_some, List.getElem?_eq_getElem hl]
theorem some_of (k : Nat) (xs : List PyData) (h0 : 0 < xs.length) (h1 : xs.length < 1000) : S l (fun x => ∃ d ∈ xs, x = .dat d) (callN TT (k + 2) 15 [.mut l, .dat (.list xs)]) := by
  rw [call_step (f := ⟨2, 2, b15⟩) rfl, run_at (n := 2) (p := 2) (by rfl)]
  unfold b15
  (simp only [at_0, at_1, sz0, sz1, sz2, sz3, sz4, sz5, sz6, sz7, sz8, den_neg, den_c, den_v, den_g, den_tup, den_lst, den_bin, den_neg, den_cmp, den_and, den_or, den_not, den_ite, den_ix, den_sl, den_call, den_bi, den_isi, den_get2, dens_nil, dens_cons, deno_none, deno_some, denc_none, denc_some, denIt_seq, denS_set, denS_par, denS_ret, denS_ex, denS_ite, denSs_nil, denSs_cons, rdD_dat, tru_b, tru_i, tru_l, add_i, sub_i, mul_i, fdiv_i, mod_i, add_t, add_l, cmp_eq, cmp_ne, cmp_lt, cmp_ge, cmp_gt, ix_l, ix_t, ix_m, sl_l, bi_tuple_l, bi_list_t, bi_list_l, bi_len_l, bi_len_t, bi_int_i, items_l, items_t, isi_tt, isi_it, isi_st, asInt_i, datAll_nil, datAll_cons, shaped_i, M.ret_bind, M.bind_assoc, M.opt_some, M.rd_const, quiet_ret, List.map_cons, List.map_nil, List.replicate, List.cons_append, List.nil_append, List.getElem?_cons_zero, List.getElem?_cons_succ, join_ss, Option.map_some, Option.bind_some, List.set_cons_zero, List.set_cons_succ, List.length_cons, List.length_nil, ↓reduceIte, Bool.false_eq_true, Bool.not_true, Bool.not_false, Bool.and_self])
  refine S.bind (take k xs.length (by omega) (by omega)) fun x ⟨r, ex, q0, q1⟩ => ?_
  subst ex
  obtain ⟨d, hd, e⟩ := atI_ok q0 q1
  simp only [ix_l, e]
  (simp only [at_0, at_1, sz0, sz1, sz2, sz3, sz4, sz5, sz6, sz7, sz8, den_neg, den_c, den_v, den_g, den_tup, den_lst, den_bin, den_neg, den_cmp, den_and, den_or, den_not, den_ite, den_ix, den_sl, den_call, den_bi, den_isi, den_get2, dens_nil, dens_cons, deno_none, deno_some, denc_none, denc_some, denIt_seq, denS_set, denS_par, denS_ret, denS_ex, denS_ite, denSs_nil, denSs_cons, rdD_dat, tru_b, tru_i, tru_l, add_i, sub_i, mul_i, fdiv_i, mod_i, add_t, add_l, cmp_eq, cmp_ne, cmp_lt, cmp_ge, cmp_gt, ix_l, ix_t, ix_m, sl_l, bi_tuple_l, bi_list_t, bi_list_l, bi_len_l, bi_len_t, bi_int_i, items_l, items_t, isi_tt, isi_it, isi_st, asInt_i, datAll_nil, datAll_cons, shaped_i, M.ret_bind, M.bind_assoc, M.opt_some, M.rd_const, quiet_ret, List.map_cons, List.map_nil, List.replicate, List.cons_append, List.nil_append, List.getElem?_cons_zero, List.getElem?_cons_succ, join_ss, Option.map_some, Option.bind_some, List.set_cons_zero, List.set_cons_succ, List.length_cons, List.length_nil, ↓reduceIte, Bool.false_eq_true, Bool.not_true, Bool.not_false, Bool.and_self])
  exact S.ret ⟨d, hd, rfl⟩
theorem any_name (k : Nat) : S l (fun x => ∃ s ∈ nm8, x = .dat (.str s)) (callN TT (k + 3) 17 [.mut l]) := by
  rw [call_step (f := ⟨1, 1, b17⟩) rfl, run_at (n := 1) (p := 1) (by rfl)]
  unfold b17
  (simp only [at_0, at_1, sz0, sz1, sz2, sz3, sz4, sz5, sz6, sz7, sz8, den_neg, den_c, den_v, den_g, den_tup, den_lst, den_bin, den_neg, den_cmp, den_and, den_or, den_not, den_ite, den_ix, den_sl, den_call, den_bi, den_isi, den_get2, dens_nil, dens_cons, deno_none, deno_some, denc_none, denc_some, denIt_seq, denS_set, denS_par, denS_ret, denS_ex, denS_ite, denSs_nil, denSs_cons, rdD_dat, tru_b, tru_i, tru_l, add_i, sub_i, mul_i, fdiv_i, mod_i, add_t, add_l, cmp_eq, cmp_ne, cmp_lt, cmp_ge, cmp_gt, ix_l, ix_t, ix_m, sl_l, bi_tuple_l, bi_list_t, bi_list_l, bi_len_l, bi_len_t, bi_int_i, items_l, items_t, isi_tt, isi_it, isi_st, asInt_i, datAll_nil, datAll_cons, shaped_i, M.ret_bind, M.bind_assoc, M.opt_some, M.rd_const, quiet_ret, List.map_cons, List.map_nil, List.replicate, List.cons_append, List.nil_append, List.getElem?_cons_zero, List.getElem?_cons_succ, join_ss, Option.map_some, Option.bind_some, List.set_cons_zero, List.set_cons_succ, List.length_cons, List.length_nil, ↓reduceIte, Bool.false_eq_true, Bool.not_true, Bool.not_false, Bool.and_self])
  refine S.bind (some_of k _ (by simp) (by simp)) fun x ⟨d, hd, ex⟩ => ?_
  subst ex
  refine S.ret ?_
  have hd' : d ∈ nm8.map PyData.str := hd
  obtain ⟨s, hs, rfl⟩ := List.mem_map.mp hd'
  exact ⟨s, hs, rfl⟩
theorem any_value (k : Nat) : S l (fun x => ∃ d ∈ valsL, x = .dat d) (callN TT (k + 4) 18 [.mut l]) := by
  rw [call_step (f := ⟨1, 1, b18⟩) rfl, run_at (n := 1) (p := 1) (by rfl)]
  unfold b18
  (simp only [at_0, at_1, sz0, sz1, sz2, sz3, sz4, sz5, sz6, sz7, sz8, den_neg, den_c, den_v, den_g, den_tup, den_lst, den_bin, den_neg, den_cmp, den_and, den_or, den_not, den_ite, den_ix, den_sl, den_call, den_bi, den_isi, den_get2, dens_nil, dens_cons, deno_none, deno_some, denc_none, denc_some, denIt_seq, denS_set, denS_par, denS_ret, denS_ex, denS_ite, denSs_nil, denSs_cons, rdD_dat, tru_b, tru_i, tru_l, add_i, sub_i, mul_i, fdiv_i, mod_i, add_t, add_l, cmp_eq, cmp_ne, cmp_lt, cmp_ge, cmp_gt, ix_l, ix_t, ix_m, sl_l, bi_tuple_l, bi_list_t, bi_list_l, bi_len_l, bi_len_t, bi_int_i, items_l, items_t, isi_tt, isi_it, isi_st, asInt_i, datAll_nil, datAll_cons, shaped_i, M.ret_bind, M.bind_assoc, M.opt_some, M.rd_const, quiet_ret, List.map_cons, List.map_nil, List.replicate, List.cons_append, List.nil_append, List.getElem?_cons_zero, List.getElem?_cons_succ, join_ss, Option.map_some, Option.bind_some, List.set_cons_zero, List.set_cons_succ, List.length_cons, List.length_nil, ↓reduceIte, Bool.false_eq_true, Bool.not_true, Bool.not_false, Bool.and_self])
  refine S.bind (any_name k) fun x ⟨s, hs, ex⟩ => ?_
  subst ex
  (simp only [at_0, at_1, sz0, sz1, sz2, sz3, sz4, sz5, sz6, sz7, sz8, den_neg, den_c, den_v, den_g, den_tup, den_lst, den_bin, den_neg, den_cmp, den_and, den_or, den_not, den_ite, den_ix, den_sl, den_call, den_bi, den_isi, den_get2, dens_nil, dens_cons, deno_none, deno_some, denc_none, denc_some, denIt_seq, denS_set, denS_par, denS_ret, denS_ex, denS_ite, denSs_nil, denSs_cons, rdD_dat, tru_b, tru_i, tru_l, add_i, sub_i, mul_i, fdiv_i, mod_i, add_t, add_l, cmp_eq, cmp_ne, cmp_lt, cmp_ge, cmp_gt, ix_l, ix_t, ix_m, sl_l, bi_tuple_l, bi_list_t, bi_list_l, bi_len_l, bi_len_t, bi_int_i, items_l, items_t, isi_tt, isi_it, isi_st, asInt_i, datAll_nil, datAll_cons, shaped_i, M.ret_bind, M.bind_assoc, M.opt_some, M.rd_const, quiet_ret, List.map_cons, List.map_nil, List.replicate, List.cons_append, List.nil_append, List.getElem?_cons_zero, List.getElem?_cons_succ, join_ss, Option.map_some, Option.bind_some, List.set_cons_zero, List.set_cons_succ, List.length_cons, List.length_nil, ↓reduceIte, Bool.false_eq_true, Bool.not_true, Bool.not_false, Bool.and_self])
  refine S.bind (some_of (k + 1) _ (by simp) (by simp)) fun x ⟨d, hd, ex⟩ => ?_
  subst ex
  refine S.ret ⟨d, ?_, rfl⟩
  simp only [List.mem_cons, List.not_mem_nil, or_false] at hd
  rcases hd with rfl | rfl | rfl | rfl | rfl | rfl
  all_goals first | (exact List.mem_append_right _ (List.mem_map.mpr ⟨s, hs, rfl⟩)) | (simp [valsL])
theorem any_term (k : Nat) : S l (fun x => ∃ d ∈ termsL, x = .dat d) (callN TT (k + 5) 19 [.mut l]) := by
  rw [call_step (f := ⟨1, 1, b19⟩) rfl, run_at (n := 1) (p := 1) (by rfl)]
  unfold b19
  (simp only [at_0, at_1, sz0, sz1, sz2, sz3, sz4, sz5, sz6, sz7, sz8, den_neg, den_c, den_v, den_g, den_tup, den_lst, den_bin, den_neg, den_cmp, den_and, den_or, den_not, den_ite, den_ix, den_sl, den_call, den_bi, den_isi, den_get2, dens_nil, dens_cons, deno_none, deno_some, denc_none, denc_some, denIt_seq, denS_set, denS_par, denS_ret, denS_ex, denS_ite, denSs_nil, denSs_cons, rdD_dat, tru_b, tru_i, tru_l, add_i, sub_i, mul_i, fdiv_i, mod_i, add_t, add_l, cmp_eq, cmp_ne, cmp_lt, cmp_ge, cmp_gt, ix_l, ix_t, ix_m, sl_l, bi_tuple_l, bi_list_t, bi_list_l, bi_len_l, bi_len_t, bi_int_i, items_l, items_t, isi_tt, isi_it, isi_st, asInt_i, datAll_nil, datAll_cons, shaped_i, M.ret_bind, M.bind_assoc, M.opt_some, M.rd_const, quiet_ret, List.map_cons, List.map_nil, List.replicate, List.cons_append, List.nil_append, List.getElem?_cons_zero, List.getElem?_cons_succ, join_ss, Option.map_some, Option.bind_some, List.set_cons_zero, List.set_cons_succ, List.length_cons, List.length_nil, ↓reduceIte, Bool.false_eq_true, Bool.not_true, Bool.not_false, Bool.and_self])
  refine S.bind (any_value k) fun x ⟨v, hv, ex⟩ => ?_
  subst ex
  (simp only [at_0, at_1, sz0, sz1, sz2, sz3, sz4, sz5, sz6, sz7, sz8, den_neg, den_c, den_v, den_g, den_tup, den_lst, den_bin, den_neg, den_cmp, den_and, den_or, den_not, den_ite, den_ix, den_sl, den_call, den_bi, den_isi, den_get2, dens_nil, dens_cons, deno_none, deno_some, denc_none, denc_some, denIt_seq, denS_set, denS_par, denS_ret, denS_ex, denS_ite, denSs_nil, denSs_cons, rdD_dat, tru_b, tru_i, tru_l, add_i, sub_i, mul_i, fdiv_i, mod_i, add_t, add_l, cmp_eq, cmp_ne, cmp_lt, cmp_ge, cmp_gt, ix_l, ix_t, ix_m, sl_l, bi_tuple_l, bi_list_t, bi_list_l, bi_len_l, bi_len_t, bi_int_i, items_l, items_t, isi_tt, isi_it, isi_st, asInt_i, datAll_nil, datAll_cons, shaped_i, M.ret_bind, M.bind_assoc, M.opt_some, M.rd_const, quiet_ret, List.map_cons, List.map_nil, List.replicate, List.cons_append, List.nil_append, List.getElem?_cons_zero, List.getElem?_cons_succ, join_ss, Option.map_some, Option.bind_some, List.set_cons_zero, List.set_cons_succ, List.length_cons, List.length_nil, ↓reduceIte, Bool.false_eq_true, Bool.not_true, Bool.not_false, Bool.and_self])
  refine S.bind (any_name (k + 1)) fun x ⟨s, hs, ex⟩ => ?_
  subst ex
  (simp only [at_0, at_1, sz0, sz1, sz2, sz3, sz4, sz5, sz6, sz7, sz8, den_neg, den_c, den_v, den_g, den_tup, den_lst, den_bin, den_neg, den_cmp, den_and, den_or, den_not, den_ite, den_ix, den_sl, den_call, den_bi, den_isi, den_get2, dens_nil, dens_cons, deno_none, deno_some, denc_none, denc_some, denIt_seq, denS_set, denS_par, denS_ret, denS_ex, denS_ite, denSs_nil, denSs_cons, rdD_dat, tru_b, tru_i, tru_l, add_i, sub_i, mul_i, fdiv_i, mod_i, add_t, add_l, cmp_eq, cmp_ne, cmp_lt, cmp_ge, cmp_gt, ix_l, ix_t, ix_m, sl_l, bi_tuple_l, bi_list_t, bi_list_l, bi_len_l, bi_len_t, bi_int_i, items_l, items_t, isi_tt, isi_it, isi_st, asInt_i, datAll_nil, datAll_cons, shaped_i, M.ret_bind, M.bind_assoc, M.opt_some, M.rd_const, quiet_ret, List.map_cons, List.map_nil, List.replicate, List.cons_append, List.nil_append, List.getElem?_cons_zero, List.getElem?_cons_succ, join_ss, Option.map_some, Option.bind_some, List.set_cons_zero, List.set_cons_succ, List.length_cons, List.length_nil, ↓reduceIte, Bool.false_eq_true, Bool.not_true, Bool.not_false, Bool.and_self])
  refine S.bind (any_name (k + 1)) fun x ⟨s', hs', ex⟩ => ?_
  subst ex
  (simp only [at_0, at_1, sz0, sz1, sz2, sz3, sz4, sz5, sz6, sz7, sz8, den_neg, den_c, den_v, den_g, den_tup, den_lst, den_bin, den_neg, den_cmp, den_and, den_or, den_not, den_ite, den_ix, den_sl, den_call, den_bi, den_isi, den_get2, dens_nil, dens_cons, deno_none, deno_some, denc_none, denc_some, denIt_seq, denS_set, denS_par, denS_ret, denS_ex, denS_ite, denSs_nil, denSs_cons, rdD_dat, tru_b, tru_i, tru_l, add_i, sub_i, mul_i, fdiv_i, mod_i, add_t, add_l, cmp_eq, cmp_ne, cmp_lt, cmp_ge, cmp_gt, ix_l, ix_t, ix_m, sl_l, bi_tuple_l, bi_list_t, bi_list_l, bi_len_l, bi_len_t, bi_int_i, items_l, items_t, isi_tt, isi_it, isi_st, asInt_i, datAll_nil, datAll_cons, shaped_i, M.ret_bind, M.bind_assoc, M.opt_some, M.rd_const, quiet_ret, List.map_cons, List.map_nil, List.replicate, List.cons_append, List.nil_append, List.getElem?_cons_zero, List.getElem?_cons_succ, join_ss, Option.map_some, Option.bind_some, List.set_cons_zero, List.set_cons_succ, List.length_cons, List.length_nil, ↓reduceIte, Bool.false_eq_true, Bool.not_true, Bool.not_false, Bool.and_self])
  refine S.bind (some_of (k + 2) _ (by simp) (by simp)) fun x ⟨d, hd, ex⟩ => ?_
  subst ex
  refine S.ret ⟨d, ?_, rfl⟩
  have vr : ∀ s ∈ nm8, PyData.tuple [.str "var", .str s] ∈ termsL := fun s hs => List.mem_append_right _ (List.mem_map.mpr ⟨s, hs, rfl⟩)
  simp only [List.mem_cons, List.not_mem_nil, or_false] at hd
  rcases hd with rfl | rfl | rfl
  · exact vals_sub _ hv
  · exact vr s hs
  · exact vr s' hs'
end K01
end
section
set_option Elab.async false
set_option linter.all false
set_option maxRecDepth 100000
/-! The law k01, plain: drawn facts, tellings. -/
namespace K01
open PySem DL
variable {l : Nat}
theorem datAll_map : ∀ xs : List PyData, datAll (xs.map .dat) = some xs
  | [] => rfl
  | x :: xs => by rw [List.map_cons, datAll_cons, datAll_map xs]; rfl
/-- one fact is drawn -/
theorem one_fact (k : Nat) (p : Bool) (x2 x3 x4 : Option D) : S l (fun x => ∃ f, x = .dat f ∧ isFact f ∧ (p = true → ∀ s ts, f = .tuple [s, .tuple ts] → ∀ t ∈ ts, t ∈ valsL)) (den (callN TT (k + 6)) (.tup (.cons (.call 17 (.cons (.v 0) .nil)) (.cons (.bi .tuple (.cons (.lc (.ite (.v 1) (.call 18 (.cons (.v 0) .nil)) (.call 19 (.cons (.v 0) .nil))) (.mk [4] (.name 4) (.rng (.bin .add (.c (.int 1)) (.call 14 (.cons (.v 0) (.cons (.c (.int 3)) .nil))))) .none)) .nil)) .nil)))
    [some (.mut l), some (.dat (.bool p)), x2, x3, x4]) := by
  (simp only [at_0, at_1, sz0, sz1, sz2, sz3, sz4, sz5, sz6, sz7, sz8, den_neg, den_c, den_v, den_g, den_tup, den_lst, den_bin, den_neg, den_cmp, den_and, den_or, den_not, den_ite, den_ix, den_sl, den_call, den_bi, den_isi, den_get2, dens_nil, dens_cons, deno_none, deno_some, denc_none, denc_some, denIt_seq, denS_set, denS_par, denS_ret, denS_ex, denS_ite, denSs_nil, denSs_cons, rdD_dat, tru_b, tru_i, tru_l, add_i, sub_i, mul_i, fdiv_i, mod_i, add_t, add_l, cmp_eq, cmp_ne, cmp_lt, cmp_ge, cmp_gt, ix_l, ix_t, ix_m, sl_l, bi_tuple_l, bi_list_t, bi_list_l, bi_len_l, bi_len_t, bi_int_i, items_l, items_t, isi_tt, isi_it, isi_st, asInt_i, datAll_nil, datAll_cons, shaped_i, M.ret_bind, M.bind_assoc, M.opt_some, M.rd_const, quiet_ret, List.map_cons, List.map_nil, List.replicate, List.cons_append, List.nil_append, List.getElem?_cons_zero, List.getElem?_cons_succ, join_ss, Option.map_some, Option.bind_some, List.set_cons_zero, List.set_cons_succ, List.length_cons, List.length_nil, ↓reduceIte, Bool.false_eq_true, Bool.not_true, Bool.not_false, Bool.and_self])
  refine S.bind (any_name (k + 3)) fun x ⟨s, hs, ex⟩ => ?_
  subst ex
  refine S.bind (S.lc (n := 3) (R := fun _ => True) (ψ := fun d => d ∈ termsL ∧ (p = true → d ∈ valsL)) (by omega) ((S.rng (n := 3) (by omega) ?_).mono fun xs h => ⟨h.1, fun _ _ => True.intro⟩) fun x _ => ⟨_, rfl, ?_⟩) fun x ⟨ts, ex, ht, hl⟩ => ?_
  · (simp only [at_0, at_1, sz0, sz1, sz2, sz3, sz4, sz5, sz6, sz7, sz8, den_neg, den_c, den_v, den_g, den_tup, den_lst, den_bin, den_neg, den_cmp, den_and, den_or, den_not, den_ite, den_ix, den_sl, den_call, den_bi, den_isi, den_get2, dens_nil, dens_cons, deno_none, deno_some, denc_none, denc_some, denIt_seq, denS_set, denS_par, denS_ret, denS_ex, denS_ite, denSs_nil, denSs_cons, rdD_dat, tru_b, tru_i, tru_l, add_i, sub_i, mul_i, fdiv_i, mod_i, add_t, add_l, cmp_eq, cmp_ne, cmp_lt, cmp_ge, cmp_gt, ix_l, ix_t, ix_m, sl_l, bi_tuple_l, bi_list_t, bi_list_l, bi_len_l, bi_len_t, bi_int_i, items_l, items_t, isi_tt, isi_it, isi_st, asInt_i, datAll_nil, datAll_cons, shaped_i, M.ret_bind, M.bind_assoc, M.opt_some, M.rd_const, quiet_ret, List.map_cons, List.map_nil, List.replicate, List.cons_append, List.nil_append, List.getElem?_cons_zero, List.getElem?_cons_succ, join_ss, Option.map_some, Option.bind_some, List.set_cons_zero, List.set_cons_succ, List.length_cons, List.length_nil, ↓reduceIte, Bool.false_eq_true, Bool.not_true, Bool.not_false, Bool.and_self])
    refine S.bind (take (k + 5) 3 (by omega) (by omega)) fun x ⟨r, ex, q0, q1⟩ => ?_
    subst ex
    (simp only [at_0, at_1, sz0, sz1, sz2, sz3, sz4, sz5, sz6, sz7, sz8, den_neg, den_c, den_v, den_g, den_tup, den_lst, den_bin, den_neg, den_cmp, den_and, den_or, den_not, den_ite, den_ix, den_sl, den_call, den_bi, den_isi, den_get2, dens_nil, dens_cons, deno_none, deno_some, denc_none, denc_some, denIt_seq, denS_set, denS_par, denS_ret, denS_ex, denS_ite, denSs_nil, denSs_cons, rdD_dat, tru_b, tru_i, tru_l, add_i, sub_i, mul_i, fdiv_i, mod_i, add_t, add_l, cmp_eq, cmp_ne, cmp_lt, cmp_ge, cmp_gt, ix_l, ix_t, ix_m, sl_l, bi_tuple_l, bi_list_t, bi_list_l, bi_len_l, bi_len_t, bi_int_i, items_l, items_t, isi_tt, isi_it, isi_st, asInt_i, datAll_nil, datAll_cons, shaped_i, M.ret_bind, M.bind_assoc, M.opt_some, M.rd_const, quiet_ret, List.map_cons, List.map_nil, List.replicate, List.cons_append, List.nil_append, List.getElem?_cons_zero, List.getElem?_cons_succ, join_ss, Option.map_some, Option.bind_some, List.set_cons_zero, List.set_cons_succ, List.length_cons, List.length_nil, ↓reduceIte, Bool.false_eq_true, Bool.not_true, Bool.not_false, Bool.and_self])
    exact S.ret ⟨1 + r, rfl, by omega, by omega⟩
  · show S l _ (den (callN TT (k + 6)) (.ite (.v 1) (.call 18 (.cons (.v 0) .nil)) (.call 19 (.cons (.v 0) .nil))) [some (.mut l), some (.dat (.bool p)), x2, x3, some x])
    cases p with
    | true =>
      (simp only [at_0, at_1, sz0, sz1, sz2, sz3, sz4, sz5, sz6, sz7, sz8, den_neg, den_c, den_v, den_g, den_tup, den_lst, den_bin, den_neg, den_cmp, den_and, den_or, den_not, den_ite, den_ix, den_sl, den_call, den_bi, den_isi, den_get2, dens_nil, dens_cons, deno_none, deno_some, denc_none, denc_some, denIt_seq, denS_set, denS_par, denS_ret, denS_ex, denS_ite, denSs_nil, denSs_cons, rdD_dat, tru_b, tru_i, tru_l, add_i, sub_i, mul_i, fdiv_i, mod_i, add_t, add_l, cmp_eq, cmp_ne, cmp_lt, cmp_ge, cmp_gt, ix_l, ix_t, ix_m, sl_l, bi_tuple_l, bi_list_t, bi_list_l, bi_len_l, bi_len_t, bi_int_i, items_l, items_t, isi_tt, isi_it, isi_st, asInt_i, datAll_nil, datAll_cons, shaped_i, M.ret_bind, M.bind_assoc, M.opt_some, M.rd_const, quiet_ret, List.map_cons, List.map_nil, List.replicate, List.cons_append, List.nil_append, List.getElem?_cons_zero, List.getElem?_cons_succ, join_ss, Option.map_some, Option.bind_some, List.set_cons_zero, List.set_cons_succ, List.length_cons, List.length_nil, ↓reduceIte, Bool.false_eq_true, Bool.not_true, Bool.not_false, Bool.and_self])
      exact (any_value (k + 2)).mono fun x ⟨d, hd, ex⟩ => ⟨d, ex, vals_sub d hd, fun _ => hd⟩
    | false =>
      (simp only [at_0, at_1, sz0, sz1, sz2, sz3, sz4, sz5, sz6, sz7, sz8, den_neg, den_c, den_v, den_g, den_tup, den_lst, den_bin, den_neg, den_cmp, den_and, den_or, den_not, den_ite, den_ix, den_sl, den_call, den_bi, den_isi, den_get2, dens_nil, dens_cons, deno_none, deno_some, denc_none, denc_some, denIt_seq, denS_set, denS_par, denS_ret, denS_ex, denS_ite, denSs_nil, denSs_cons, rdD_dat, tru_b, tru_i, tru_l, add_i, sub_i, mul_i, fdiv_i, mod_i, add_t, add_l, cmp_eq, cmp_ne, cmp_lt, cmp_ge, cmp_gt, ix_l, ix_t, ix_m, sl_l, bi_tuple_l, bi_list_t, bi_list_l, bi_len_l, bi_len_t, bi_int_i, items_l, items_t, isi_tt, isi_it, isi_st, asInt_i, datAll_nil, datAll_cons, shaped_i, M.ret_bind, M.bind_assoc, M.opt_some, M.rd_const, quiet_ret, List.map_cons, List.map_nil, List.replicate, List.cons_append, List.nil_append, List.getElem?_cons_zero, List.getElem?_cons_succ, join_ss, Option.map_some, Option.bind_some, List.set_cons_zero, List.set_cons_succ, List.length_cons, List.length_nil, ↓reduceIte, Bool.false_eq_true, Bool.not_true, Bool.not_false, Bool.and_self])
      exact (any_term (k + 1)).mono fun x ⟨d, hd, ex⟩ => ⟨d, ex, hd, fun z => by cases z⟩
  · subst ex
    (simp only [at_0, at_1, sz0, sz1, sz2, sz3, sz4, sz5, sz6, sz7, sz8, den_neg, den_c, den_v, den_g, den_tup, den_lst, den_bin, den_neg, den_cmp, den_and, den_or, den_not, den_ite, den_ix, den_sl, den_call, den_bi, den_isi, den_get2, dens_nil, dens_cons, deno_none, deno_some, denc_none, denc_some, denIt_seq, denS_set, denS_par, denS_ret, denS_ex, denS_ite, denSs_nil, denSs_cons, rdD_dat, tru_b, tru_i, tru_l, add_i, sub_i, mul_i, fdiv_i, mod_i, add_t, add_l, cmp_eq, cmp_ne, cmp_lt, cmp_ge, cmp_gt, ix_l, ix_t, ix_m, sl_l, bi_tuple_l, bi_list_t, bi_list_l, bi_len_l, bi_len_t, bi_int_i, items_l, items_t, isi_tt, isi_it, isi_st, asInt_i, datAll_nil, datAll_cons, shaped_i, M.ret_bind, M.bind_assoc, M.opt_some, M.rd_const, quiet_ret, List.map_cons, List.map_nil, List.replicate, List.cons_append, List.nil_append, List.getElem?_cons_zero, List.getElem?_cons_succ, join_ss, Option.map_some, Option.bind_some, List.set_cons_zero, List.set_cons_succ, List.length_cons, List.length_nil, ↓reduceIte, Bool.false_eq_true, Bool.not_true, Bool.not_false, Bool.and_self])
    refine S.ret ⟨_, rfl, ⟨s, ts, rfl, hs, fun t q => (ht t q).1, hl⟩, fun hp s' ts' e t q => ?_⟩
    cases e
    exact (ht t q).2 hp
/-- the store while facts are gathered -/
structure Gat (l : Nat) (h0 : Store) (acc : List PyData) (h : Store) : Prop where
  bag : Bag l h
  at_ : h[h0.length]? = some (some (acc.map .dat))
  len : h0.length < h.length
  same : ∀ j, j < h0.length → j ≠ l → h[j]? = h0[j]?
theorem any_facts (k : Nat) (p : Bool) : S l (fun x => ∃ fs, x = .dat (.tuple fs) ∧ fs.length ≤ 3 ∧ ∀ f ∈ fs, isFact f ∧ (p = true → ∀ s ts, f = .tuple [s, .tuple ts] → ∀ t ∈ ts, t ∈ valsL)) (callN TT (k + 7) 20 [.mut l, .dat (.bool p)]) := by
  intro h0 B0
  rw [call_step (f := ⟨5, 2, b20⟩) rfl, run_at (n := 5) (p := 2) (by rfl)]
  have hll := B0.lt
  -- the loop
  have loop : ∀ (xs : List D) (acc : List PyData) (x3 : Option D) (h : Store), acc.length + xs.length ≤ 3 → Gat l h0 acc h → (∀ f ∈ acc, isFact f ∧ (p = true → ∀ s ts, f = .tuple [s, .tuple ts] → ∀ t ∈ ts, t ∈ valsL)) →
      ∃ acc' x3' h', loopS (fun x ρ => (M.opt (assignT (.name 3) ρ x)).bind fun ρ' => denSs (callN TT (k + 6)) (.cons (.ex (.app (.v 2) (.tup (.cons (.call 17 (.cons (.v 0) .nil)) (.cons (.bi .tuple (.cons (.lc (.ite (.v 1) (.call 18 (.cons (.v 0) .nil)) (.call 19 (.cons (.v 0) .nil))) (.mk [4] (.name 4) (.rng (.bin .add (.c (.int 1)) (.call 14 (.cons (.v 0) (.cons (.c (.int 3)) .nil))))) .none)) .nil)) .nil))))) .nil) ρ') xs [some (.mut l), some (.dat (.bool p)), some (.mut h0.length), x3, none] h
        = .ok (.nx [some (.mut l), some (.dat (.bool p)), some (.mut h0.length), x3', none]) h' ∧ Gat l h0 acc' h' ∧ acc'.length ≤ 3 ∧ ∀ f ∈ acc', isFact f ∧ (p = true → ∀ s ts, f = .tuple [s, .tuple ts] → ∀ t ∈ ts, t ∈ valsL) := by
    intro xs
    induction xs with
    | nil => exact fun acc x3 h hl g ha => ⟨acc, x3, h, rfl, g, by simpa using hl, ha⟩
    | cons x xs ih =>
      intro acc x3 h hl g ha
      rw [List.length_cons] at hl
      obtain ⟨y, h1, e1, ⟨f, ey, hf⟩, b1, f1⟩ := one_fact k p (some (.mut h0.length)) (some x) none h g.bag
      subst ey
      have hne : h0.length ≠ l := by omega
      have at1 : h1[h0.length]? = some (some (acc.map .dat)) := (f1.same _ g.len hne).trans g.at_
      have lst1 : lstAt h1 h0.length = some (acc.map .dat) := by unfold lstAt; rw [at1]
      have lst0 : lstAt h h0.length = some (acc.map .dat) := by unfold lstAt; rw [g.at_]
      have hlt : h0.length < h1.length := (List.getElem?_eq_some_iff.mp at1).1
      have g2 : Gat l h0 (acc ++ [f]) (h1.set h0.length (some (acc.map .dat ++ [.dat f]))) := by
        refine ⟨?_, by rw [List.getElem?_set_self hlt, List.map_append]; rfl, by rw [List.length_set]; exact hlt, fun j hj hn => ?_⟩
        · obtain ⟨a, b, c, cs, e, r⟩ := b1.ex
          exact ⟨a, b, c, cs, by rw [List.getElem?_set_ne hne]; exact e, r⟩
        · rw [List.getElem?_set_ne (by omega), f1.same j (by have := g.len; omega) hn, g.same j hj hn]
      obtain ⟨acc', x3', h', e2, g3, hl3, ha3⟩ := ih (acc ++ [f]) (some x) _ (by rw [List.length_append]; simp; omega) g2 (fun z hz => by
        rcases List.mem_append.mp hz with q | q
        · exact ha z q
        · rw [List.mem_singleton.mp q]; exact hf)
      refine ⟨acc', x3', h', ?_, g3, hl3, ha3⟩
      rw [← e2]
      show ((M.opt (assignT (.name 3) [some (.mut l), some (.dat (.bool p)), some (.mut h0.length), x3, none] x)).bind _).bind _ h = _
      rw [show assignT (.name 3) [some (.mut l), some (.dat (.bool p)), some (.mut h0.length), x3, none] x = some [some (.mut l), some (.dat (.bool p)), some (.mut h0.length), some x, none] from rfl, M.opt_some, M.ret_bind]
      refine (M.at_bind (a := Oc.nx [some (.mut l), some (.dat (.bool p)), some (.mut h0.length), some x, none]) (h' := h1.set h0.length (some (acc.map .dat ++ [.dat f]))) ?_)
      rw [denSs_cons, denS_ex]
      refine (M.at_bind (a := Oc.nx [some (.mut l), some (.dat (.bool p)), some (.mut h0.length), some x, none]) (h' := h1.set h0.length (some (acc.map .dat ++ [.dat f]))) ?_)
      refine (M.at_bind (a := D.dat .none) (h' := h1.set h0.length (some (acc.map .dat ++ [.dat f]))) ?_)
      show (M.ret (D.mut h0.length)).bind _ h = _
      rw [M.ret_bind]
      refine (M.at_bind (a := h0.length) (h' := h) (M.rd_at (by show (lstAt h h0.length).map _ = _; rw [lst0]; rfl))).trans ?_
      refine (M.at_bind e1).trans ?_
      show (match lstAt h1 h0.length with
        | some ds => if ds.length < 16777216 then Res.ok (D.dat .none) (h1.set h0.length (some (ds ++ [D.dat f]))) else .no
        | none => .no) = _
      rw [lst1]
      exact if_pos (by rw [List.length_map]; omega)
  have at0 : (h0 ++ [some []] : Store)[h0.length]? = some (some []) := by rw [List.getElem?_append_right (Nat.le_refl _), Nat.sub_self]; rfl
  have fr0 : Fr l h0 (h0 ++ [some []]) := .app _
  obtain ⟨xs, h2, e2, ⟨hxl, _⟩, b2, f2⟩ := S.rng (l := l) (C := callN TT (k + 6)) (ρ := [some (.mut l), some (.dat (.bool p)), some (.mut h0.length), none, none]) (e := .call 14 (.cons (.v 0) (.cons (.c (.int 4)) .nil))) (n := 3) (by omega) (by
    (simp only [at_0, at_1, sz0, sz1, sz2, sz3, sz4, sz5, sz6, sz7, sz8, den_neg, den_c, den_v, den_g, den_tup, den_lst, den_bin, den_neg, den_cmp, den_and, den_or, den_not, den_ite, den_ix, den_sl, den_call, den_bi, den_isi, den_get2, dens_nil, dens_cons, deno_none, deno_some, denc_none, denc_some, denIt_seq, denS_set, denS_par, denS_ret, denS_ex, denS_ite, denSs_nil, denSs_cons, rdD_dat, tru_b, tru_i, tru_l, add_i, sub_i, mul_i, fdiv_i, mod_i, add_t, add_l, cmp_eq, cmp_ne, cmp_lt, cmp_ge, cmp_gt, ix_l, ix_t, ix_m, sl_l, bi_tuple_l, bi_list_t, bi_list_l, bi_len_l, bi_len_t, bi_int_i, items_l, items_t, isi_tt, isi_it, isi_st, asInt_i, datAll_nil, datAll_cons, shaped_i, M.ret_bind, M.bind_assoc, M.opt_some, M.rd_const, quiet_ret, List.map_cons, List.map_nil, List.replicate, List.cons_append, List.nil_append, List.getElem?_cons_zero, List.getElem?_cons_succ, join_ss, Option.map_some, Option.bind_some, List.set_cons_zero, List.set_cons_succ, List.length_cons, List.length_nil, ↓reduceIte, Bool.false_eq_true, Bool.not_true, Bool.not_false, Bool.and_self])
    exact (take (k + 5) 4 (by omega) (by omega)).mono fun x ⟨r, ex, q0, q1⟩ => ⟨r, ex, q0, by omega⟩) (h0 ++ [some []]) (B0.app _)
  have hlt1 : h0.length < (h0 ++ [some []] : Store).length := by rw [List.length_append]; simp
  have g0 : Gat l h0 [] h2 := ⟨b2, (f2.same _ hlt1 (by omega)).trans at0, Nat.lt_of_lt_of_le hlt1 f2.len, fun j hj hn => (f2.same j (by omega) hn).trans (fr0.same j hj hn)⟩
  obtain ⟨acc, x3, h3, e3, g3, hl3, ha3⟩ := loop xs [] none h2 (by simpa using hxl) g0 (fun _ z => by cases z)
  have hlt3 := g3.len
  refine ⟨D.dat (.tuple acc), h3.set h0.length none, ?_, ⟨acc, rfl, hl3, ha3⟩, ?_, ?_⟩
  · unfold b20
    rw [denSs_cons, denS_set]
    have en : den (callN TT (k + 6)) (Ex.new .nil) ([D.mut l, D.dat (.bool p)].map some ++ List.replicate (5 - 2) none) h0 = .ok (.mut h0.length) (h0 ++ [some []]) := rfl
    refine (M.at_bind (a := Oc.rt (D.dat (.tuple acc))) (h' := h3.set h0.length none) ?_)
    refine (M.at_bind (a := Oc.nx [some (.mut l), some (.dat (.bool p)), some (.mut h0.length), none, none]) (h' := h0 ++ [some []]) ((M.at_bind en).trans rfl)).trans ?_
    dsimp only
    rw [denSs_cons]
    refine (M.at_bind (a := Oc.nx [some (.mut l), some (.dat (.bool p)), some (.mut h0.length), x3, none]) (h' := h3) ((M.at_bind e2).trans e3)).trans ?_
    dsimp only
    rw [denSs_cons, denS_ret]
    have ef : den (callN TT (k + 6)) (.frz 2) [some (.mut l), some (.dat (.bool p)), some (.mut h0.length), x3, none] h3 = Res.ok (D.dat (.list acc)) (h3.set h0.length none) := by
      show (match (lstAt h3 h0.length).bind datAll with
          | some xs => Res.ok (D.dat (.list xs)) (h3.set h0.length none)
          | none => .no) = _
      have q : lstAt h3 h0.length = some (acc.map .dat) := by unfold lstAt; rw [g3.at_]
      rw [q, Option.bind_some, datAll_map]
    have et : den (callN TT (k + 6)) (.bi .tuple (.cons (.frz 2) .nil)) [some (.mut l), some (.dat (.bool p)), some (.mut h0.length), x3, none] h3 = Res.ok (D.dat (.tuple acc)) (h3.set h0.length none) := by
      rw [den_bi, dens_cons, dens_nil]
      exact (M.at_bind (a := [D.dat (.list acc)]) (h' := h3.set h0.length none) ((M.at_bind ef).trans rfl)).trans rfl
    exact ((M.at_bind (a := Oc.rt (D.dat (.tuple acc))) (h' := h3.set h0.length none) ((M.at_bind et).trans rfl)).trans rfl)
  · obtain ⟨a, b, c, cs, e, r⟩ := g3.bag.ex
    exact ⟨a, b, c, cs, by rw [List.getElem?_set_ne (by omega)]; exact e, r⟩
  · exact ⟨by rw [List.length_set]; omega, fun j hj hn => by rw [List.getElem?_set_ne (by omega)]; exact g3.same j hj hn⟩
end K01
end
section
set_option Elab.async false
set_option linter.all false
set_option maxRecDepth 100000
/-! The law k01, plain: tellings and their keys. -/
namespace K01
open PySem DL
variable {l : Nat}
def isCpl (c : PyData) : Prop := ∃ (s : Str) (v : PyData), c = .tuple [.str s, v] ∧ s ∈ nm8 ∧ v ∈ valsL
def isTel (d : PyData) : Prop := ∃ cs : List PyData, d = .tuple cs ∧ cs.length ≤ 3 ∧ ∀ c ∈ cs, isCpl c
theorem strs_map : ∀ ss : List Str, strsOf (ss.map .str) = some ss
  | [] => rfl
  | s :: ss => by
    show (strsOf (ss.map .str)).map (s :: ·) = _
    rw [strs_map ss]; rfl
theorem strs_of {G : Str → Prop} : ∀ ds : List PyData, (∀ d ∈ ds, ∃ s, d = .str s ∧ G s) → ∃ ss : List Str, ds = ss.map .str ∧ ∀ s ∈ ss, G s
  | [], _ => ⟨[], rfl, fun _ z => by cases z⟩
  | d :: ds, h => by
    obtain ⟨s, rfl, hs⟩ := h d List.mem_cons_self
    obtain ⟨ss, rfl, h2⟩ := strs_of ds fun x hx => h x (List.mem_cons_of_mem _ hx)
    exact ⟨s :: ss, rfl, fun x hx => by
      rcases List.mem_cons.mp hx with rfl | q
      · exact hs
      · exact h2 x q⟩
theorem sput_sub : ∀ (xs acc : List PyData) (x : PyData), x ∈ xs.foldl sput acc → x ∈ acc ∨ x ∈ xs
  | [], _, _, h => .inl h
  | k :: xs, acc, x, h => by
    rcases sput_sub xs _ x h with q | q
    · unfold sput at q
      split at q
      · exact .inl q
      · rcases List.mem_append.mp q with z | z
        · exact .inl z
        · exact .inr (by rw [List.mem_singleton.mp z]; exact List.mem_cons_self)
    · exact .inr (List.mem_cons_of_mem _ q)
theorem sput_lens : ∀ (xs acc : List PyData), (xs.foldl sput acc).length ≤ acc.length + xs.length
  | [], _ => Nat.le_refl _
  | k :: xs, acc => by
    have h1 := sput_lens xs (sput acc k)
    have h2 := sput_len acc k
    rw [List.foldl_cons, List.length_cons]
    omega
/-- what sorted gives -/
abbrev srtM0 : D → M D := fun x h => match x with
  | .st xs => (match strsOf xs with | some _ => .ok (.dat (.list (sortD xs xs))) h | none => .no)
  | x => (match srtOf h x with
      | some xs => if sortOk xs then .ok (.dat (.list (sortD xs xs))) h else .no
      | none => .no)
/-- sorted(set(texts)) -/
theorem srt_set {C : Nat → List D → M D} {ρ : Rho} {e : Ex} {ss : List Str} (he : den C e ρ = .ret (.dat (.list (ss.map .str)))) (hl : ss.length ≤ 1000) : den C (.srt (.bi .set (.cons e .nil))) ρ = .ret (.dat (.list (sortD (dd (ss.map .str)) (dd (ss.map .str))))) := by
  have e1 : den C (.bi .set (.cons e .nil)) ρ = .ret (.st (dd (ss.map .str))) := by
    rw [den_bi, dens_cons, dens_nil, he]
    show (M.rd fun h => opBi .set h [D.dat (.list (ss.map .str))]) = _
    have : (fun h => opBi .set h [D.dat (.list (ss.map .str))]) = fun _ => some (.st (dd (ss.map .str))) := by
      funext h
      show ((strsOf (ss.map .str)).bind fun ss' => if decide (ss'.length ≤ 1000) then some (D.st ((ss.map .str).foldl sput [])) else none) = _
      rw [strs_map, Option.bind_some, if_pos (decide_eq_true hl)]; rfl
    rw [this, M.rd_const]
  have hs : ∃ ss', strsOf (dd (ss.map .str)) = some ss' := by
    obtain ⟨ss', e2, _⟩ := strs_of (G := fun _ => True) (dd (ss.map .str)) fun d hd => by
      rcases sput_sub _ _ d hd with q | q
      · cases q
      · obtain ⟨s, _, rfl⟩ := List.mem_map.mp q
        exact ⟨s, rfl, True.intro⟩
    exact ⟨ss', by rw [e2]; exact strs_map ss'⟩
  obtain ⟨ss', e2⟩ := hs
  funext h
  show ((den C (.bi .set (.cons e .nil)) ρ).bind _) h = _
  rw [e1, M.ret_bind]
  show (match strsOf (dd (ss.map .str)) with | some _ => Res.ok (D.dat (.list (sortD (dd (ss.map .str)) (dd (ss.map .str))))) h | none => .no) = _
  rw [e2]; rfl
theorem sortD_sub (xs : List PyData) : (∀ x, x ∈ sortD xs xs ↔ x ∈ xs) ∧ (sortD xs xs).length = xs.length := by
  have e := sortD_mem (g := id) xs
  have e2 := sortD_len (g := id) xs
  rw [List.map_id] at e e2
  exact ⟨e, e2⟩
theorem any_telling (k : Nat) : S l (fun x => ∃ d, x = .dat d ∧ isTel d) (callN TT (k + 6) 21 [.mut l]) := by
  rw [call_step (f := ⟨4, 1, b21⟩) rfl, run_at (n := 4) (p := 1) (by rfl)]
  unfold b21
  rw [denSs_cons, denS_set]
  have h1 : S l (fun r => ∃ ds, r = .dat (.list ds) ∧ (∀ d ∈ ds, ∃ s, d = .str s ∧ s ∈ nm8) ∧ ds.length ≤ 3) (den (callN TT (k + 5)) (.lc (.call 17 (.cons (.v 0) .nil)) (.mk [2] (.name 2) (.rng (.call 14 (.cons (.v 0) (.cons (.c (.int 4)) .nil)))) .none)) [some (.mut l), none, none, none]) := by
    refine S.lc (n := 3) (R := fun _ => True) (by omega) ((S.rng (n := 3) (by omega) ?_).mono fun xs h => ⟨h.1, fun _ _ => True.intro⟩) fun x _ => ⟨_, rfl, ?_⟩
    · (simp only [at_0, at_1, sz0, sz1, sz2, sz3, sz4, sz5, sz6, sz7, sz8, den_neg, den_c, den_v, den_g, den_tup, den_lst, den_bin, den_neg, den_cmp, den_and, den_or, den_not, den_ite, den_ix, den_sl, den_call, den_bi, den_isi, den_get2, dens_nil, dens_cons, deno_none, deno_some, denc_none, denc_some, denIt_seq, denS_set, denS_par, denS_ret, denS_ex, denS_ite, denSs_nil, denSs_cons, rdD_dat, tru_b, tru_i, tru_l, add_i, sub_i, mul_i, fdiv_i, mod_i, add_t, add_l, cmp_eq, cmp_ne, cmp_lt, cmp_ge, cmp_gt, ix_l, ix_t, ix_m, sl_l, bi_tuple_l, bi_list_t, bi_list_l, bi_len_l, bi_len_t, bi_int_i, items_l, items_t, isi_tt, isi_it, isi_st, asInt_i, datAll_nil, datAll_cons, shaped_i, M.ret_bind, M.bind_assoc, M.opt_some, M.rd_const, quiet_ret, List.map_cons, List.map_nil, List.replicate, List.cons_append, List.nil_append, List.getElem?_cons_zero, List.getElem?_cons_succ, join_ss, Option.map_some, Option.bind_some, List.set_cons_zero, List.set_cons_succ, List.length_cons, List.length_nil, ↓reduceIte, Bool.false_eq_true, Bool.not_true, Bool.not_false, Bool.and_self])
      exact (take (k + 4) 4 (by omega) (by omega)).mono fun x ⟨r, ex, q0, q1⟩ => ⟨r, ex, q0, by omega⟩
    · show S l _ (den (callN TT (k + 5)) (.call 17 (.cons (.v 0) .nil)) [some (.mut l), none, some x, none])
      (simp only [at_0, at_1, sz0, sz1, sz2, sz3, sz4, sz5, sz6, sz7, sz8, den_neg, den_c, den_v, den_g, den_tup, den_lst, den_bin, den_neg, den_cmp, den_and, den_or, den_not, den_ite, den_ix, den_sl, den_call, den_bi, den_isi, den_get2, dens_nil, dens_cons, deno_none, deno_some, denc_none, denc_some, denIt_seq, denS_set, denS_par, denS_ret, denS_ex, denS_ite, denSs_nil, denSs_cons, rdD_dat, tru_b, tru_i, tru_l, add_i, sub_i, mul_i, fdiv_i, mod_i, add_t, add_l, cmp_eq, cmp_ne, cmp_lt, cmp_ge, cmp_gt, ix_l, ix_t, ix_m, sl_l, bi_tuple_l, bi_list_t, bi_list_l, bi_len_l, bi_len_t, bi_int_i, items_l, items_t, isi_tt, isi_it, isi_st, asInt_i, datAll_nil, datAll_cons, shaped_i, M.ret_bind, M.bind_assoc, M.opt_some, M.rd_const, quiet_ret, List.map_cons, List.map_nil, List.replicate, List.cons_append, List.nil_append, List.getElem?_cons_zero, List.getElem?_cons_succ, join_ss, Option.map_some, Option.bind_some, List.set_cons_zero, List.set_cons_succ, List.length_cons, List.length_nil, ↓reduceIte, Bool.false_eq_true, Bool.not_true, Bool.not_false, Bool.and_self])
      exact (any_name (k + 2)).mono fun x ⟨s, hs, ex⟩ => ⟨_, ex, s, rfl, hs⟩
  have h2 : S l (fun r => ∃ ns : List PyData, r = .dat (.list ns) ∧ ns.length ≤ 3 ∧ ∀ d ∈ ns, ∃ s, d = .str s ∧ s ∈ nm8) (den (callN TT (k + 5)) (.srt (.bi .set (.cons (.lc (.call 17 (.cons (.v 0) .nil)) (.mk [2] (.name 2) (.rng (.call 14 (.cons (.v 0) (.cons (.c (.int 4)) .nil)))) .none)) .nil))) [some (.mut l), none, none, none]) := by
    intro h B
    obtain ⟨r, h', e, ⟨ds, er, hd, hl⟩, b, f⟩ := h1 h B
    subst er
    obtain ⟨ss, rfl, hs⟩ := strs_of ds hd
    rw [List.length_map] at hl
    have hsub := sortD_sub (dd (ss.map .str))
    refine ⟨_, h', ?_, ⟨sortD (dd (ss.map .str)) (dd (ss.map .str)), rfl, ?_, fun d hd' => ?_⟩, b, f⟩
    · have es := congrFun (srt_set (C := callN TT (k + 5)) (ρ := []) (e := .c (.list (ss.map .str))) (ss := ss) rfl (by omega)) h'
      have p1 : den (callN TT (k + 5)) (.srt (.bi .set (.cons (.c (.list (ss.map .str))) .nil))) [] h' = (((((M.ret (D.dat (.list (ss.map .str)))).bind fun x => (M.ret []).bind fun xs => M.ret (x :: xs)).bind fun ds => M.rd fun h => opBi .set h ds).bind srtM0) h') := rfl
      rw [p1] at es
      show (((((den (callN TT (k + 5)) _ _).bind fun x => (M.ret []).bind fun xs => M.ret (x :: xs)).bind fun ds => M.rd fun h => opBi .set h ds).bind srtM0) h) = _
      rw [M.bind_assoc, M.bind_assoc, M.at_bind e]
      rw [M.bind_assoc, M.bind_assoc, M.ret_bind] at es
      exact es
    · rw [hsub.2]
      have := sput_lens (ss.map .str) []
      show ((ss.map PyData.str).foldl sput []).length ≤ 3
      rw [List.length_map] at this
      simp at this
      omega
    · rcases sput_sub _ _ d ((hsub.1 d).mp hd') with q | q
      · cases q
      · obtain ⟨s, hm, rfl⟩ := List.mem_map.mp q
        exact ⟨s, rfl, hs s hm⟩
  rw [M.bind_assoc, M.bind_assoc]
  refine S.bind h2 fun x ⟨ns, ex, hl, hn⟩ => ?_
  subst ex
  rw [M.ret_bind]
  dsimp only
  rw [denSs_cons, denS_ret, den_bi, dens_cons, dens_nil]
  simp only [M.bind_assoc, M.ret_bind]
  refine S.bind (S.lc (n := 3) (R := fun x => ∃ s ∈ nm8, x = .dat (.str s)) (ψ := isCpl) (by omega) ?_ ?_) fun x ⟨cs, ex, hc, hcl⟩ => ?_
  · rw [denIt_seq]
    exact S.ret (a := ns.map D.dat) ⟨by rw [List.length_map]; exact hl, fun x hx => by
      obtain ⟨d, hd, rfl⟩ := List.mem_map.mp hx
      obtain ⟨s, rfl, hs⟩ := hn d hd
      exact ⟨s, hs, rfl⟩⟩
  · rintro x ⟨s, hs, rfl⟩
    refine ⟨_, rfl, ?_⟩
    show S l _ (den (callN TT (k + 5)) (.tup (.cons (.v 3) (.cons (.call 18 (.cons (.v 0) .nil)) .nil))) [some (.mut l), some (.dat (.list ns)), none, some (.dat (.str s))])
    (simp only [at_0, at_1, sz0, sz1, sz2, sz3, sz4, sz5, sz6, sz7, sz8, den_neg, den_c, den_v, den_g, den_tup, den_lst, den_bin, den_neg, den_cmp, den_and, den_or, den_not, den_ite, den_ix, den_sl, den_call, den_bi, den_isi, den_get2, dens_nil, dens_cons, deno_none, deno_some, denc_none, denc_some, denIt_seq, denS_set, denS_par, denS_ret, denS_ex, denS_ite, denSs_nil, denSs_cons, rdD_dat, tru_b, tru_i, tru_l, add_i, sub_i, mul_i, fdiv_i, mod_i, add_t, add_l, cmp_eq, cmp_ne, cmp_lt, cmp_ge, cmp_gt, ix_l, ix_t, ix_m, sl_l, bi_tuple_l, bi_list_t, bi_list_l, bi_len_l, bi_len_t, bi_int_i, items_l, items_t, isi_tt, isi_it, isi_st, asInt_i, datAll_nil, datAll_cons, shaped_i, M.ret_bind, M.bind_assoc, M.opt_some, M.rd_const, quiet_ret, List.map_cons, List.map_nil, List.replicate, List.cons_append, List.nil_append, List.getElem?_cons_zero, List.getElem?_cons_succ, join_ss, Option.map_some, Option.bind_some, List.set_cons_zero, List.set_cons_succ, List.length_cons, List.length_nil, ↓reduceIte, Bool.false_eq_true, Bool.not_true, Bool.not_false, Bool.and_self])
    refine S.bind (any_value (k + 1)) fun x ⟨v, hv, ex⟩ => ?_
    subst ex
    (simp only [at_0, at_1, sz0, sz1, sz2, sz3, sz4, sz5, sz6, sz7, sz8, den_neg, den_c, den_v, den_g, den_tup, den_lst, den_bin, den_neg, den_cmp, den_and, den_or, den_not, den_ite, den_ix, den_sl, den_call, den_bi, den_isi, den_get2, dens_nil, dens_cons, deno_none, deno_some, denc_none, denc_some, denIt_seq, denS_set, denS_par, denS_ret, denS_ex, denS_ite, denSs_nil, denSs_cons, rdD_dat, tru_b, tru_i, tru_l, add_i, sub_i, mul_i, fdiv_i, mod_i, add_t, add_l, cmp_eq, cmp_ne, cmp_lt, cmp_ge, cmp_gt, ix_l, ix_t, ix_m, sl_l, bi_tuple_l, bi_list_t, bi_list_l, bi_len_l, bi_len_t, bi_int_i, items_l, items_t, isi_tt, isi_it, isi_st, asInt_i, datAll_nil, datAll_cons, shaped_i, M.ret_bind, M.bind_assoc, M.opt_some, M.rd_const, quiet_ret, List.map_cons, List.map_nil, List.replicate, List.cons_append, List.nil_append, List.getElem?_cons_zero, List.getElem?_cons_succ, join_ss, Option.map_some, Option.bind_some, List.set_cons_zero, List.set_cons_succ, List.length_cons, List.length_nil, ↓reduceIte, Bool.false_eq_true, Bool.not_true, Bool.not_false, Bool.and_self])
    exact S.ret ⟨_, rfl, s, v, rfl, hs, hv⟩
  · subst ex
    (simp only [at_0, at_1, sz0, sz1, sz2, sz3, sz4, sz5, sz6, sz7, sz8, den_neg, den_c, den_v, den_g, den_tup, den_lst, den_bin, den_neg, den_cmp, den_and, den_or, den_not, den_ite, den_ix, den_sl, den_call, den_bi, den_isi, den_get2, dens_nil, dens_cons, deno_none, deno_some, denc_none, denc_some, denIt_seq, denS_set, denS_par, denS_ret, denS_ex, denS_ite, denSs_nil, denSs_cons, rdD_dat, tru_b, tru_i, tru_l, add_i, sub_i, mul_i, fdiv_i, mod_i, add_t, add_l, cmp_eq, cmp_ne, cmp_lt, cmp_ge, cmp_gt, ix_l, ix_t, ix_m, sl_l, bi_tuple_l, bi_list_t, bi_list_l, bi_len_l, bi_len_t, bi_int_i, items_l, items_t, isi_tt, isi_it, isi_st, asInt_i, datAll_nil, datAll_cons, shaped_i, M.ret_bind, M.bind_assoc, M.opt_some, M.rd_const, quiet_ret, List.map_cons, List.map_nil, List.replicate, List.cons_append, List.nil_append, List.getElem?_cons_zero, List.getElem?_cons_succ, join_ss, Option.map_some, Option.bind_some, List.set_cons_zero, List.set_cons_succ, List.length_cons, List.length_nil, ↓reduceIte, Bool.false_eq_true, Bool.not_true, Bool.not_false, Bool.and_self])
    exact S.ret ⟨_, rfl, cs, rfl, hcl, hc⟩
end K01
end
section
set_option Elab.async false
set_option linter.all false
set_option maxRecDepth 100000
/-! The law k01, plain: tellings in order. -/
namespace K01
open PySem DL
def cplK : PyData → PyData
  | .tuple [s, v] => .tuple [s, keyT v]
  | _ => .none
def telK : PyData → PyData
  | .tuple cs => .tuple (cs.map cplK)
  | _ => .none
theorem cpl_ok {c : PyData} (h : isCpl c) : Ok 2 60 c ∧ keyOk c = true := by
  obtain ⟨s, v, rfl, hs, hv⟩ := h
  have h1 := ok_of (name_ok s hs).1
  have h2 := ok_of (term_ok v (vals_sub v hv)).1
  refine ⟨(Ok.tuple (n := 1) (w := 25) (xs := [.str s, v]) fun x hx => ?_).mono (Nat.le_refl _) (by simp), ?_⟩
  · simp only [List.mem_cons, List.not_mem_nil, or_false] at hx
    rcases hx with rfl | rfl
    · exact h1.mono (by omega) (Nat.le_refl _)
    · exact h2
  · show (keyOk (.str s) && (keyOk v && true)) = true
    rw [key8_split (term_ok v (vals_sub v hv)).2.1]; rfl
theorem tel_ok {d : PyData} (h : isTel d) : Ok 3 200 d ∧ keyOk8 d = true := by
  obtain ⟨cs, rfl, hl, hc⟩ := h
  have h1 : Ok 3 200 (.tuple cs) := (Ok.tuple fun c q => (cpl_ok (hc c q)).1).mono (Nat.le_refl _) (by have : cs.length * (60 + 2) ≤ 3 * 62 := Nat.mul_le_mul_right _ hl; omega)
  refine ⟨h1, ?_⟩
  unfold keyOk8
  rw [decide_eq_true (Nat.le_trans h1.dep (by decide)), Bool.and_true]
  exact keyOks_all fun c q => (cpl_ok (hc c q)).2
theorem cpl_alike : ∀ (cs ds : List PyData), (∀ c ∈ cs, isCpl c) → (∀ c ∈ ds, isCpl c) → PySem.W.alikeAll (cs.map cplK) (ds.map cplK) = true
  | [], ds, _, _ => by simp [PySem.W.alikeAll]
  | c :: cs, [], _, _ => by simp [PySem.W.alikeAll]
  | c :: cs, d :: ds, h1, h2 => by
    obtain ⟨s, v, rfl, hs, hv⟩ := h1 c List.mem_cons_self
    obtain ⟨s', v', rfl, hs', hv'⟩ := h2 d List.mem_cons_self
    simp only [List.map_cons, cplK, PySem.W.alikeAll, PySem.W.alike, Bool.and_eq_true, Bool.and_true, Bool.true_and]
    exact ⟨term_alike v (vals_sub v hv) v' (vals_sub v' hv'), cpl_alike cs ds (fun x hx => h1 x (List.mem_cons_of_mem _ hx)) fun x hx => h2 x (List.mem_cons_of_mem _ hx)⟩
theorem cpl_inj : ∀ (cs ds : List PyData), (∀ c ∈ cs, isCpl c) → (∀ c ∈ ds, isCpl c) → PyData.eqvAll (cs.map cplK) (ds.map cplK) = true → cs = ds
  | [], [], _, _, _ => rfl
  | [], _ :: _, _, _, e => by cases e
  | _ :: _, [], _, _, e => by cases e
  | c :: cs, d :: ds, h1, h2, e => by
    obtain ⟨s, v, rfl, hs, hv⟩ := h1 c List.mem_cons_self
    obtain ⟨s', v', rfl, hs', hv'⟩ := h2 d List.mem_cons_self
    have e' : (((s == s') && (PyData.eqv (keyT v) (keyT v') && true)) && PyData.eqvAll (cs.map cplK) (ds.map cplK)) = true := e
    simp only [Bool.and_eq_true, Bool.and_true] at e'
    rw [eq_of_beq e'.1.1, goodT.inj v v' (vals_sub v hv) (vals_sub v' hv') e'.1.2, cpl_inj cs ds (fun x hx => h1 x (List.mem_cons_of_mem _ hx)) (fun x hx => h2 x (List.mem_cons_of_mem _ hx)) e'.2]
theorem goodL : Good telK isTel where
  clean := fun x h => (tel_ok h).1.cl
  alike := by
    rintro x y ⟨cs, rfl, hl, hc⟩ ⟨ds, rfl, hl', hc'⟩
    simp only [telK, PySem.W.alike]
    exact cpl_alike cs ds hc hc'
  dep := by
    rintro x ⟨cs, rfl, hl, hc⟩
    refine ⟨?_, rfl⟩
    have h1 : PyData.depthAll (cs.map cplK) ≤ 2 := depthAll_le fun x hx => by
      obtain ⟨c, q, rfl⟩ := List.mem_map.mp hx
      obtain ⟨s, v, rfl, hs, hv⟩ := hc c q
      have := (ok_of (term_ok v (vals_sub v hv)).2.2.1).dep
      simp only [cplK, PyData.depth, PyData.depthAll]
      omega
    simp only [telK, PyData.depth]
    omega
  inj := by
    rintro x y ⟨cs, rfl, hl, hc⟩ ⟨ds, rfl, hl', hc'⟩ e
    rw [cpl_inj cs ds hc hc' e]
theorem telling_key (k : Nat) (d : PyData) (h : isTel d) : callN TT (k + 4) 6 [.dat d] = M.ret (.dat (telK d)) := by
  obtain ⟨cs, rfl, hl, hc⟩ := h
  rw [call_step (f := ⟨3, 1, b6⟩) rfl, run_at (n := 3) (p := 1) (by rfl)]
  unfold b6
  (simp only [at_0, at_1, sz0, sz1, sz2, sz3, sz4, sz5, sz6, sz7, sz8, den_neg, den_c, den_v, den_g, den_tup, den_lst, den_bin, den_neg, den_cmp, den_and, den_or, den_not, den_ite, den_ix, den_sl, den_call, den_bi, den_isi, den_get2, dens_nil, dens_cons, deno_none, deno_some, denc_none, denc_some, denIt_seq, denS_set, denS_par, denS_ret, denS_ex, denS_ite, denSs_nil, denSs_cons, rdD_dat, tru_b, tru_i, tru_l, add_i, sub_i, mul_i, fdiv_i, mod_i, add_t, add_l, cmp_eq, cmp_ne, cmp_lt, cmp_ge, cmp_gt, ix_l, ix_t, ix_m, sl_l, bi_tuple_l, bi_list_t, bi_list_l, bi_len_l, bi_len_t, bi_int_i, items_l, items_t, isi_tt, isi_it, isi_st, asInt_i, datAll_nil, datAll_cons, shaped_i, M.ret_bind, M.bind_assoc, M.opt_some, M.rd_const, quiet_ret, List.map_cons, List.map_nil, List.replicate, List.cons_append, List.nil_append, List.getElem?_cons_zero, List.getElem?_cons_succ, join_ss, Option.map_some, Option.bind_some, List.set_cons_zero, List.set_cons_succ, List.length_cons, List.length_nil, ↓reduceIte, Bool.false_eq_true, Bool.not_true, Bool.not_false, Bool.and_self])
  rw [lc_all (ds := cs) (g := cplK)]
  · (simp only [at_0, at_1, sz0, sz1, sz2, sz3, sz4, sz5, sz6, sz7, sz8, den_neg, den_c, den_v, den_g, den_tup, den_lst, den_bin, den_neg, den_cmp, den_and, den_or, den_not, den_ite, den_ix, den_sl, den_call, den_bi, den_isi, den_get2, dens_nil, dens_cons, deno_none, deno_some, denc_none, denc_some, denIt_seq, denS_set, denS_par, denS_ret, denS_ex, denS_ite, denSs_nil, denSs_cons, rdD_dat, tru_b, tru_i, tru_l, add_i, sub_i, mul_i, fdiv_i, mod_i, add_t, add_l, cmp_eq, cmp_ne, cmp_lt, cmp_ge, cmp_gt, ix_l, ix_t, ix_m, sl_l, bi_tuple_l, bi_list_t, bi_list_l, bi_len_l, bi_len_t, bi_int_i, items_l, items_t, isi_tt, isi_it, isi_st, asInt_i, datAll_nil, datAll_cons, shaped_i, M.ret_bind, M.bind_assoc, M.opt_some, M.rd_const, quiet_ret, List.map_cons, List.map_nil, List.replicate, List.cons_append, List.nil_append, List.getElem?_cons_zero, List.getElem?_cons_succ, join_ss, Option.map_some, Option.bind_some, List.set_cons_zero, List.set_cons_succ, List.length_cons, List.length_nil, ↓reduceIte, Bool.false_eq_true, Bool.not_true, Bool.not_false, Bool.and_self]); rfl
  · rfl
  · intro c q
    obtain ⟨s, v, rfl, hs, hv⟩ := hc c q
    refine ⟨_, rfl, ?_⟩
    show den (callN TT (k + 3)) (.tup (.cons (.v 1) (.cons (.call 4 (.cons (.v 2) .nil)) .nil))) [some (.dat (.tuple cs)), some (.dat (.str s)), some (.dat v)] = _
    (simp only [at_0, at_1, sz0, sz1, sz2, sz3, sz4, sz5, sz6, sz7, sz8, den_neg, den_c, den_v, den_g, den_tup, den_lst, den_bin, den_neg, den_cmp, den_and, den_or, den_not, den_ite, den_ix, den_sl, den_call, den_bi, den_isi, den_get2, dens_nil, dens_cons, deno_none, deno_some, denc_none, denc_some, denIt_seq, denS_set, denS_par, denS_ret, denS_ex, denS_ite, denSs_nil, denSs_cons, rdD_dat, tru_b, tru_i, tru_l, add_i, sub_i, mul_i, fdiv_i, mod_i, add_t, add_l, cmp_eq, cmp_ne, cmp_lt, cmp_ge, cmp_gt, ix_l, ix_t, ix_m, sl_l, bi_tuple_l, bi_list_t, bi_list_l, bi_len_l, bi_len_t, bi_int_i, items_l, items_t, isi_tt, isi_it, isi_st, asInt_i, datAll_nil, datAll_cons, shaped_i, M.ret_bind, M.bind_assoc, M.opt_some, M.rd_const, quiet_ret, List.map_cons, List.map_nil, List.replicate, List.cons_append, List.nil_append, List.getElem?_cons_zero, List.getElem?_cons_succ, join_ss, Option.map_some, Option.bind_some, List.set_cons_zero, List.set_cons_succ, List.length_cons, List.length_nil, ↓reduceIte, Bool.false_eq_true, Bool.not_true, Bool.not_false, Bool.and_self])
    rw [value_key k v (vals_sub v hv)]
    (simp only [at_0, at_1, sz0, sz1, sz2, sz3, sz4, sz5, sz6, sz7, sz8, den_neg, den_c, den_v, den_g, den_tup, den_lst, den_bin, den_neg, den_cmp, den_and, den_or, den_not, den_ite, den_ix, den_sl, den_call, den_bi, den_isi, den_get2, dens_nil, dens_cons, deno_none, deno_some, denc_none, denc_some, denIt_seq, denS_set, denS_par, denS_ret, denS_ex, denS_ite, denSs_nil, denSs_cons, rdD_dat, tru_b, tru_i, tru_l, add_i, sub_i, mul_i, fdiv_i, mod_i, add_t, add_l, cmp_eq, cmp_ne, cmp_lt, cmp_ge, cmp_gt, ix_l, ix_t, ix_m, sl_l, bi_tuple_l, bi_list_t, bi_list_l, bi_len_l, bi_len_t, bi_int_i, items_l, items_t, isi_tt, isi_it, isi_st, asInt_i, datAll_nil, datAll_cons, shaped_i, M.ret_bind, M.bind_assoc, M.opt_some, M.rd_const, quiet_ret, List.map_cons, List.map_nil, List.replicate, List.cons_append, List.nil_append, List.getElem?_cons_zero, List.getElem?_cons_succ, join_ss, Option.map_some, Option.bind_some, List.set_cons_zero, List.set_cons_succ, List.length_cons, List.length_nil, ↓reduceIte, Bool.false_eq_true, Bool.not_true, Bool.not_false, Bool.and_self])
    rfl
  · omega
theorem law_telling_key (k : Nat) (d : PyData) (h : isTel d) : callN TT (k + 2) 24 [.dat d] = M.ret (.dat (telK d)) := by
  obtain ⟨cs, rfl, hl, hc⟩ := h
  rw [call_step (f := ⟨3, 1, b24⟩) rfl, run_at (n := 3) (p := 1) (by rfl)]
  unfold b24
  (simp only [at_0, at_1, sz0, sz1, sz2, sz3, sz4, sz5, sz6, sz7, sz8, den_neg, den_c, den_v, den_g, den_tup, den_lst, den_bin, den_neg, den_cmp, den_and, den_or, den_not, den_ite, den_ix, den_sl, den_call, den_bi, den_isi, den_get2, dens_nil, dens_cons, deno_none, deno_some, denc_none, denc_some, denIt_seq, denS_set, denS_par, denS_ret, denS_ex, denS_ite, denSs_nil, denSs_cons, rdD_dat, tru_b, tru_i, tru_l, add_i, sub_i, mul_i, fdiv_i, mod_i, add_t, add_l, cmp_eq, cmp_ne, cmp_lt, cmp_ge, cmp_gt, ix_l, ix_t, ix_m, sl_l, bi_tuple_l, bi_list_t, bi_list_l, bi_len_l, bi_len_t, bi_int_i, items_l, items_t, isi_tt, isi_it, isi_st, asInt_i, datAll_nil, datAll_cons, shaped_i, M.ret_bind, M.bind_assoc, M.opt_some, M.rd_const, quiet_ret, List.map_cons, List.map_nil, List.replicate, List.cons_append, List.nil_append, List.getElem?_cons_zero, List.getElem?_cons_succ, join_ss, Option.map_some, Option.bind_some, List.set_cons_zero, List.set_cons_succ, List.length_cons, List.length_nil, ↓reduceIte, Bool.false_eq_true, Bool.not_true, Bool.not_false, Bool.and_self])
  rw [lc_all (ds := cs) (g := cplK)]
  · (simp only [at_0, at_1, sz0, sz1, sz2, sz3, sz4, sz5, sz6, sz7, sz8, den_neg, den_c, den_v, den_g, den_tup, den_lst, den_bin, den_neg, den_cmp, den_and, den_or, den_not, den_ite, den_ix, den_sl, den_call, den_bi, den_isi, den_get2, dens_nil, dens_cons, deno_none, deno_some, denc_none, denc_some, denIt_seq, denS_set, denS_par, denS_ret, denS_ex, denS_ite, denSs_nil, denSs_cons, rdD_dat, tru_b, tru_i, tru_l, add_i, sub_i, mul_i, fdiv_i, mod_i, add_t, add_l, cmp_eq, cmp_ne, cmp_lt, cmp_ge, cmp_gt, ix_l, ix_t, ix_m, sl_l, bi_tuple_l, bi_list_t, bi_list_l, bi_len_l, bi_len_t, bi_int_i, items_l, items_t, isi_tt, isi_it, isi_st, asInt_i, datAll_nil, datAll_cons, shaped_i, M.ret_bind, M.bind_assoc, M.opt_some, M.rd_const, quiet_ret, List.map_cons, List.map_nil, List.replicate, List.cons_append, List.nil_append, List.getElem?_cons_zero, List.getElem?_cons_succ, join_ss, Option.map_some, Option.bind_some, List.set_cons_zero, List.set_cons_succ, List.length_cons, List.length_nil, ↓reduceIte, Bool.false_eq_true, Bool.not_true, Bool.not_false, Bool.and_self]); rfl
  · rfl
  · intro c q
    obtain ⟨s, v, rfl, hs, hv⟩ := hc c q
    refine ⟨_, rfl, ?_⟩
    show den (callN TT (k + 1)) (.tup (.cons (.v 1) (.cons (.call 22 (.cons (.v 2) .nil)) .nil))) [some (.dat (.tuple cs)), some (.dat (.str s)), some (.dat v)] = _
    (simp only [at_0, at_1, sz0, sz1, sz2, sz3, sz4, sz5, sz6, sz7, sz8, den_neg, den_c, den_v, den_g, den_tup, den_lst, den_bin, den_neg, den_cmp, den_and, den_or, den_not, den_ite, den_ix, den_sl, den_call, den_bi, den_isi, den_get2, dens_nil, dens_cons, deno_none, deno_some, denc_none, denc_some, denIt_seq, denS_set, denS_par, denS_ret, denS_ex, denS_ite, denSs_nil, denSs_cons, rdD_dat, tru_b, tru_i, tru_l, add_i, sub_i, mul_i, fdiv_i, mod_i, add_t, add_l, cmp_eq, cmp_ne, cmp_lt, cmp_ge, cmp_gt, ix_l, ix_t, ix_m, sl_l, bi_tuple_l, bi_list_t, bi_list_l, bi_len_l, bi_len_t, bi_int_i, items_l, items_t, isi_tt, isi_it, isi_st, asInt_i, datAll_nil, datAll_cons, shaped_i, M.ret_bind, M.bind_assoc, M.opt_some, M.rd_const, quiet_ret, List.map_cons, List.map_nil, List.replicate, List.cons_append, List.nil_append, List.getElem?_cons_zero, List.getElem?_cons_succ, join_ss, Option.map_some, Option.bind_some, List.set_cons_zero, List.set_cons_succ, List.length_cons, List.length_nil, ↓reduceIte, Bool.false_eq_true, Bool.not_true, Bool.not_false, Bool.and_self])
    rw [law_key k v (vals_sub v hv)]
    (simp only [at_0, at_1, sz0, sz1, sz2, sz3, sz4, sz5, sz6, sz7, sz8, den_neg, den_c, den_v, den_g, den_tup, den_lst, den_bin, den_neg, den_cmp, den_and, den_or, den_not, den_ite, den_ix, den_sl, den_call, den_bi, den_isi, den_get2, dens_nil, dens_cons, deno_none, deno_some, denc_none, denc_some, denIt_seq, denS_set, denS_par, denS_ret, denS_ex, denS_ite, denSs_nil, denSs_cons, rdD_dat, tru_b, tru_i, tru_l, add_i, sub_i, mul_i, fdiv_i, mod_i, add_t, add_l, cmp_eq, cmp_ne, cmp_lt, cmp_ge, cmp_gt, ix_l, ix_t, ix_m, sl_l, bi_tuple_l, bi_list_t, bi_list_l, bi_len_l, bi_len_t, bi_int_i, items_l, items_t, isi_tt, isi_it, isi_st, asInt_i, datAll_nil, datAll_cons, shaped_i, M.ret_bind, M.bind_assoc, M.opt_some, M.rd_const, quiet_ret, List.map_cons, List.map_nil, List.replicate, List.cons_append, List.nil_append, List.getElem?_cons_zero, List.getElem?_cons_succ, join_ss, Option.map_some, Option.bind_some, List.set_cons_zero, List.set_cons_succ, List.length_cons, List.length_nil, ↓reduceIte, Bool.false_eq_true, Bool.not_true, Bool.not_false, Bool.and_self])
    rfl
  · omega
theorem asc_tellings (k : Nat) (x : D) (xs : List PyData) (hi : ∀ h, itemsD h x = some (xs.map .dat)) (hG : ∀ d ∈ xs, isTel d) (hl : xs.length ≤ 1000) : callN TT (k + 5) 8 [x] = M.ret (.dat (.tuple (ascL telK xs))) := by
  rw [call_step (f := ⟨2, 1, b8⟩) rfl, run_at (n := 2) (p := 1) (by rfl)]
  unfold b8
  (simp only [at_0, at_1, sz0, sz1, sz2, sz3, sz4, sz5, sz6, sz7, sz8, den_neg, den_c, den_v, den_g, den_tup, den_lst, den_bin, den_neg, den_cmp, den_and, den_or, den_not, den_ite, den_ix, den_sl, den_call, den_bi, den_isi, den_get2, dens_nil, dens_cons, deno_none, deno_some, denc_none, denc_some, denIt_seq, denS_set, denS_par, denS_ret, denS_ex, denS_ite, denSs_nil, denSs_cons, rdD_dat, tru_b, tru_i, tru_l, add_i, sub_i, mul_i, fdiv_i, mod_i, add_t, add_l, cmp_eq, cmp_ne, cmp_lt, cmp_ge, cmp_gt, ix_l, ix_t, ix_m, sl_l, bi_tuple_l, bi_list_t, bi_list_l, bi_len_l, bi_len_t, bi_int_i, items_l, items_t, isi_tt, isi_it, isi_st, asInt_i, datAll_nil, datAll_cons, shaped_i, M.ret_bind, M.bind_assoc, M.opt_some, M.rd_const, quiet_ret, List.map_cons, List.map_nil, List.replicate, List.cons_append, List.nil_append, List.getElem?_cons_zero, List.getElem?_cons_succ, join_ss, Option.map_some, Option.bind_some, List.set_cons_zero, List.set_cons_succ, List.length_cons, List.length_nil, ↓reduceIte, Bool.false_eq_true, Bool.not_true, Bool.not_false, Bool.and_self])
  rw [asc_body goodL rfl (by simp) hi hG (fun d q => (tel_ok (hG d q)).2) (fun d q => telling_key k d q) (by omega)]
  (simp only [at_0, at_1, sz0, sz1, sz2, sz3, sz4, sz5, sz6, sz7, sz8, den_neg, den_c, den_v, den_g, den_tup, den_lst, den_bin, den_neg, den_cmp, den_and, den_or, den_not, den_ite, den_ix, den_sl, den_call, den_bi, den_isi, den_get2, dens_nil, dens_cons, deno_none, deno_some, denc_none, denc_some, denIt_seq, denS_set, denS_par, denS_ret, denS_ex, denS_ite, denSs_nil, denSs_cons, rdD_dat, tru_b, tru_i, tru_l, add_i, sub_i, mul_i, fdiv_i, mod_i, add_t, add_l, cmp_eq, cmp_ne, cmp_lt, cmp_ge, cmp_gt, ix_l, ix_t, ix_m, sl_l, bi_tuple_l, bi_list_t, bi_list_l, bi_len_l, bi_len_t, bi_int_i, items_l, items_t, isi_tt, isi_it, isi_st, asInt_i, datAll_nil, datAll_cons, shaped_i, M.ret_bind, M.bind_assoc, M.opt_some, M.rd_const, quiet_ret, List.map_cons, List.map_nil, List.replicate, List.cons_append, List.nil_append, List.getElem?_cons_zero, List.getElem?_cons_succ, join_ss, Option.map_some, Option.bind_some, List.set_cons_zero, List.set_cons_succ, List.length_cons, List.length_nil, ↓reduceIte, Bool.false_eq_true, Bool.not_true, Bool.not_false, Bool.and_self])
end K01
end
section
set_option Elab.async false
set_option linter.all false
set_option maxRecDepth 100000
/-! The law k01, plain: the law's own sorting. -/
namespace K01
open PySem DL
/-- the store with the list that is gathered -/
abbrev stG (h : Store) (acc : List PyData) : Store := h ++ [some (acc.map .dat)]
section
variable {C : Nat → List D → M D} {h : Store} {acc : List PyData} {d : PyData} {x0 : Option D} {n w : Nat}
theorem stG_at : lstAt (stG h acc) h.length = some (acc.map .dat) := by
  unfold lstAt
  rw [List.getElem?_append_right (Nat.le_refl _), Nat.sub_self]; rfl
theorem stG_set (acc' : List D) : (stG h acc).set h.length (some acc') = h ++ [some acc'] := by
  rw [List.set_append_right _ _ (Nat.le_refl _), Nat.sub_self]; rfl
theorem eqv_nil : ∀ acc : List PyData, PyData.eqv (.list acc) (.list []) = acc.isEmpty
  | [] => rfl
  | _ :: _ => rfl
theorem at_last (ini : List PyData) (z : PyData) : L2.atI ((ini ++ [z]).map D.dat) (-1) = some (.dat z) := by
  unfold L2.atI L2.ixN
  rw [if_neg (by decide), if_pos (by rw [List.length_map, List.length_append]; simp; omega), Option.bind_some]
  have : (-1 + (((ini ++ [z]).map D.dat).length : Int)).toNat = ini.length := by
    rw [List.length_map, List.length_append]
    simp
    omega
  rw [this, List.map_append, List.getElem?_append_right (by rw [List.length_map]; omega), List.length_map, Nat.sub_self]; rfl
/-- whether it is another one than the last -/
theorem new_one (hn : n + 1 ≤ 64) (ha : ∀ y ∈ acc, Ok n w y) (hd : Ok n w d) : den C (.or (.cmp .eq (.v 1) (.lst .nil)) (.cmp .ne (.ix (.v 1) (.neg (.c (.int 1)))) (.v 2))) [x0, some (.mut h.length), some (.dat d)] (stG h acc)
    = .ok (.dat (.bool (acc.isEmpty || (match acc.getLast? with | some y => !PyData.eqv y d | none => true)))) (stG h acc) := by
  have r1 : rdD (stG h acc) (.mut h.length) = some (.list acc) := by
    show ((lstAt (stG h acc) h.length).bind datAll).map PyData.list = _
    rw [stG_at, Option.bind_some, datAll_map]; rfl
  have c1 : opCmp .eq (stG h acc) (.mut h.length) (.dat (.list [])) = some acc.isEmpty := by
    have u : opCmp .eq (stG h acc) (.mut h.length) (.dat (.list [])) = if eqOk (.list acc) (.list []) = true then some (PyData.eqv (.list acc) (.list [])) else none := by
      simp only [opCmp, r1, rdD_dat]
    rw [u]
    rw [if_pos (eqOk_of (Ok.list ha) (Ok.list (n := 0) (w := 0) (xs := []) fun _ z => by cases z) hn (by decide)), eqv_nil]
  rw [den_or]
  have e1 : den C (.cmp .eq (.v 1) (.lst .nil)) [x0, some (.mut h.length), some (.dat d)] (stG h acc) = .ok (.dat (.bool acc.isEmpty)) (stG h acc) := by
    rw [den_cmp, den_v, den_lst, dens_nil, List.getElem?_cons_succ, List.getElem?_cons_zero, join_ss, M.opt_some, M.ret_bind, M.ret_bind, List.length_nil, if_pos sz0]
    simp only [datAll_nil, Option.map_some, M.opt_some, M.ret_bind]
    exact M.rd_at (by rw [c1]; rfl)
  refine (M.at_bind e1).trans ?_
  refine (M.at_bind (M.rd_at (tru_b _ _))).trans ?_
  rcases nil_or_snoc acc with rfl | ⟨ini, z, rfl⟩
  · rfl
  · have he : (ini ++ [z]).isEmpty = false := by simp
    rw [he, if_neg Bool.false_ne_true, List.getLast?_append]
    have i1 : opIx (stG h (ini ++ [z])) (.mut h.length) (.dat (.int (-1))) = some (.dat z) := by
      rw [ix_m, stG_at, Option.bind_some, at_last]
    have hz := ha z (List.mem_append_right _ (List.mem_singleton.mpr rfl))
    have c2 : opCmp .ne (stG h (ini ++ [z])) (.dat z) (.dat d) = some (!PyData.eqv z d) := by
      rw [cmp_ne, if_pos (eqOk_of hz hd (by omega) (by omega))]
    rw [den_cmp, den_ix, den_v, den_v, den_neg, den_c, List.getElem?_cons_succ, List.getElem?_cons_zero, join_ss, M.opt_some, M.ret_bind, M.ret_bind]
    show (((M.rd fun h' => opIx h' (.mut h.length) (.dat (.int (-1)))).bind _) _) = _
    rw [M.at_bind (M.rd_at i1)]
    simp only [List.getElem?_cons_succ, List.getElem?_cons_zero, join_ss, M.opt_some, M.ret_bind]
    exact M.rd_at (by rw [c2]; rfl)
theorem app_one (hl : acc.length ≤ 1000) : den C (.app (.v 1) (.v 2)) [x0, some (.mut h.length), some (.dat d)] (stG h acc) = .ok (.dat .none) (stG h (acc ++ [d])) := by
  show ((M.ret (D.mut h.length)).bind fun x => (M.rd fun h => asMut h x).bind fun l => (M.ret (D.dat d)).bind fun y => fun h => match lstAt h l with
      | some ds => if ds.length < 16777216 then Res.ok (D.dat .none) (h.set l (some (ds ++ [y]))) else .no
      | none => .no) (stG h acc) = _
  rw [M.ret_bind]
  refine (M.at_bind (a := h.length) (h' := stG h acc) (M.rd_at (by show (lstAt (stG h acc) h.length).map _ = _; rw [stG_at]; rfl))).trans ?_
  rw [M.ret_bind]
  show (match lstAt (stG h acc) h.length with
      | some ds => if ds.length < 16777216 then Res.ok (D.dat .none) ((stG h acc).set h.length (some (ds ++ [D.dat d]))) else .no
      | none => .no) = _
  rw [stG_at]
  show (if (acc.map D.dat).length < 16777216 then Res.ok (D.dat .none) ((stG h acc).set h.length (some (acc.map .dat ++ [D.dat d]))) else .no) = _
  rw [if_pos (by rw [List.length_map]; omega), stG_set, stG, List.map_append]; rfl
theorem ext_with (ys : List PyData) (hl : acc.length + ys.length ≤ 2000) {e : Ex} (he : den C e [x0, some (.mut h.length), some (.dat d)] (stG h acc) = .ok (.dat (.list ys)) (stG h acc)) : den C (.ext (.v 1) e) [x0, some (.mut h.length), some (.dat d)] (stG h acc) = .ok (.dat .none) (stG h (acc ++ ys)) := by
  show ((M.ret (D.mut h.length)).bind fun x => (M.rd fun h => asMut h x).bind fun l => (den C e [x0, some (.mut h.length), some (.dat d)]).bind fun y => fun h => match lstAt h l, y with
      | some ds, .dat (.list ys) => if ds.length + ys.length ≤ 16777216 then Res.ok (D.dat .none) (h.set l (some (ds ++ ys.map D.dat))) else .no
      | _, _ => .no) (stG h acc) = _
  rw [M.ret_bind]
  refine (M.at_bind (a := h.length) (h' := stG h acc) (M.rd_at (by show (lstAt (stG h acc) h.length).map _ = _; rw [stG_at]; rfl))).trans ?_
  refine (M.at_bind he).trans ?_
  show (match lstAt (stG h acc) h.length, D.dat (.list ys) with
      | some ds, .dat (.list ys) => if ds.length + ys.length ≤ 16777216 then Res.ok (D.dat .none) ((stG h acc).set h.length (some (ds ++ ys.map D.dat))) else .no
      | _, _ => .no) = _
  rw [stG_at]
  show (if (acc.map D.dat).length + ys.length ≤ 16777216 then Res.ok (D.dat .none) ((stG h acc).set h.length (some (acc.map D.dat ++ ys.map D.dat))) else .no) = _
  rw [if_pos (by rw [List.length_map]; omega), stG_set, stG, List.map_append]
theorem adjS_or (acc : List PyData) (d : PyData) : adjS acc d = acc ++ [d] ∨ adjS acc d = acc := by
  unfold adjS
  generalize (acc.isEmpty || (match acc.getLast? with | some y => !PyData.eqv y d | none => true)) = c
  cases c with
  | true => exact .inl rfl
  | false => exact .inr rfl
theorem adjS_len (acc : List PyData) (d : PyData) : (adjS acc d).length ≤ acc.length + 1 := by
  rcases adjS_or acc d with e | e
  · rw [e, List.length_append]; exact Nat.le_refl _
  · rw [e]; omega
theorem adjS_mem {G : PyData → Prop} (ha : ∀ y ∈ acc, G y) (hd : G d) : ∀ y ∈ adjS acc d, G y := by
  rcases adjS_or acc d with e | e
  · rw [e]
    intro y hy
    rcases List.mem_append.mp hy with q | q
    · exact ha y q
    · rw [List.mem_singleton.mp q]; exact hd
  · rw [e]; exact ha
/-- the whole, by one turn -/
theorem gather {body : Sms} {src : Ex} {ys : List PyData} (hsrc : den C src [x0, some (.mut h.length), none] = .ret (.dat (.list ys)))
    (turn : ∀ (acc : List PyData) (d : PyData), (∀ y ∈ acc, Ok n w y) → Ok n w d → acc.length ≤ 1000 → denSs C body [x0, some (.mut h.length), some (.dat d)] (stG h acc) = .ok (.nx [x0, some (.mut h.length), some (.dat d)]) (stG h (adjS acc d)))
    (hok : ∀ y ∈ ys, Ok n w y) (hl : ys.length ≤ 1000) :
    denSs C (.cons (.set 1 (.new .nil)) (.cons (.for (.name 2) (.seq src) body) (.cons (.ret (.bi .tuple (.cons (.frz 1) .nil))) .nil))) [x0, none, none] h = .ok (.rt (.dat (.tuple (ys.foldl adjS [])))) (h ++ [none]) := by
  have loop : ∀ (zs acc : List PyData) (x2 : Option D), (∀ y ∈ zs, Ok n w y) → (∀ y ∈ acc, Ok n w y) → acc.length + zs.length ≤ 1000 → ∃ x2', loopS (fun x ρ => (M.opt (assignT (.name 2) ρ x)).bind fun ρ' => denSs C body ρ') (zs.map .dat) [x0, some (.mut h.length), x2] (stG h acc) = .ok (.nx [x0, some (.mut h.length), x2']) (stG h (zs.foldl adjS acc)) := by
    intro zs
    induction zs with
    | nil => exact fun acc x2 _ _ _ => ⟨x2, rfl⟩
    | cons z zs ih =>
      intro acc x2 h1 h2 hl
      rw [List.length_cons] at hl
      have hz := h1 z List.mem_cons_self
      have hlen := adjS_len acc z
      obtain ⟨x2', e⟩ := ih (adjS acc z) (some (.dat z)) (fun y hy => h1 y (List.mem_cons_of_mem _ hy)) (adjS_mem h2 hz) (by omega)
      refine ⟨x2', ?_⟩
      rw [List.map_cons]
      refine (M.at_bind (a := Oc.nx [x0, some (.mut h.length), some (.dat z)]) (h' := stG h (adjS acc z)) ?_).trans e
      show ((M.opt (some [x0, some (.mut h.length), some (.dat z)])).bind fun ρ' => denSs C body ρ') (stG h acc) = _
      rw [M.opt_some, M.ret_bind]
      exact turn acc z h2 hz (by omega)
  rw [denSs_cons, denS_set]
  have en : den C (Ex.new .nil) [x0, none, none] h = .ok (.mut h.length) (stG h []) := rfl
  refine (M.at_bind (a := Oc.nx [x0, some (.mut h.length), none]) (h' := stG h []) ((M.at_bind en).trans rfl)).trans ?_
  dsimp only
  rw [denSs_cons]
  obtain ⟨x2, el⟩ := loop ys [] none hok (fun _ z => by cases z) (by simpa using hl)
  have es : denIt C (.seq src) [x0, some (.mut h.length), none] (stG h []) = .ok (ys.map .dat) (stG h []) := by
    rw [denIt_seq, hsrc, M.ret_bind]; rfl
  refine (M.at_bind (a := Oc.nx [x0, some (.mut h.length), x2]) (h' := stG h (ys.foldl adjS [])) ((M.at_bind es).trans el)).trans ?_
  dsimp only
  rw [denSs_cons, denS_ret]
  have ef : den C (.frz 1) [x0, some (.mut h.length), x2] (stG h (ys.foldl adjS [])) = Res.ok (D.dat (.list (ys.foldl adjS []))) (h ++ [none]) := by
    show (match (lstAt (stG h (ys.foldl adjS [])) h.length).bind datAll with
        | some xs => Res.ok (D.dat (.list xs)) ((stG h (ys.foldl adjS [])).set h.length none)
        | none => .no) = _
    rw [stG_at, Option.bind_some, datAll_map]
    show Res.ok _ ((stG h (ys.foldl adjS [])).set h.length none) = _
    rw [List.set_append_right _ _ (Nat.le_refl _), Nat.sub_self]; rfl
  have et : den C (.bi .tuple (.cons (.frz 1) .nil)) [x0, some (.mut h.length), x2] (stG h (ys.foldl adjS [])) = Res.ok (D.dat (.tuple (ys.foldl adjS []))) (h ++ [none]) := by
    rw [den_bi, dens_cons, dens_nil]
    exact (M.at_bind (a := [D.dat (.list (ys.foldl adjS []))]) (h' := h ++ [none]) ((M.at_bind ef).trans rfl)).trans rfl
  exact ((M.at_bind (a := Oc.rt (D.dat (.tuple (ys.foldl adjS [])))) (h' := h ++ [none]) ((M.at_bind et).trans rfl)).trans rfl)
end
end K01
end
section
set_option Elab.async false
set_option linter.all false
set_option maxRecDepth 100000
/-! The law k01, plain: the law's own sorting, each. -/
namespace K01
open PySem DL
section
variable {C : Nat → List D → M D} {h : Store} {acc : List PyData} {d : PyData} {x0 : Option D} {n w : Nat}
theorem adj_cond (c : Bool) (hc : c = (acc.isEmpty || (match acc.getLast? with | some y => !PyData.eqv y d | none => true))) : adjS acc d = if c = true then acc ++ [d] else acc := by
  subst hc; rfl
theorem turn_app (hn : n + 1 ≤ 64) (ha : ∀ y ∈ acc, Ok n w y) (hd : Ok n w d) (hl : acc.length ≤ 1000) :
    denSs C (.cons (.ite (.or (.cmp .eq (.v 1) (.lst .nil)) (.cmp .ne (.ix (.v 1) (.neg (.c (.int 1)))) (.v 2))) (.cons (.ex (.app (.v 1) (.v 2))) .nil) .nil) .nil) [x0, some (.mut h.length), some (.dat d)] (stG h acc) = .ok (.nx [x0, some (.mut h.length), some (.dat d)]) (stG h (adjS acc d)) := by
  have e1 := new_one (C := C) (x0 := x0) (h := h) hn ha hd
  generalize hc : (acc.isEmpty || (match acc.getLast? with | some y => !PyData.eqv y d | none => true)) = c at e1
  rw [adj_cond c hc.symm, denSs_cons, denS_ite]
  have e2 : ((den C (.or (.cmp .eq (.v 1) (.lst .nil)) (.cmp .ne (.ix (.v 1) (.neg (.c (.int 1)))) (.v 2))) [x0, some (.mut h.length), some (.dat d)]).bind fun x => (M.rd fun h => truD h x).bind fun k => if k = true then denSs C (.cons (.ex (.app (.v 1) (.v 2))) .nil) [x0, some (.mut h.length), some (.dat d)] else denSs C .nil [x0, some (.mut h.length), some (.dat d)]) (stG h acc)
      = .ok (.nx [x0, some (.mut h.length), some (.dat d)]) (stG h (if c = true then acc ++ [d] else acc)) := by
    refine (M.at_bind e1).trans ?_
    refine (M.at_bind (M.rd_at (tru_b _ _))).trans ?_
    cases c with
    | true =>
      rw [if_pos rfl, if_pos rfl, denSs_cons, denS_ex]
      exact (M.at_bind (a := Oc.nx [x0, some (.mut h.length), some (.dat d)]) (h' := stG h (acc ++ [d])) ((M.at_bind (app_one hl)).trans rfl)).trans rfl
    | false => rw [if_neg Bool.false_ne_true, if_neg Bool.false_ne_true]; rfl
  exact (M.at_bind e2).trans rfl
theorem turn_ext (hn : n + 1 ≤ 64) (ha : ∀ y ∈ acc, Ok n w y) (hd : Ok n w d) (hl : acc.length ≤ 1000) :
    denSs C (.cons (.ex (.ext (.v 1) (.ite (.or (.cmp .eq (.v 1) (.lst .nil)) (.cmp .ne (.ix (.v 1) (.neg (.c (.int 1)))) (.v 2))) (.lst (.cons (.v 2) .nil)) (.lst .nil)))) .nil) [x0, some (.mut h.length), some (.dat d)] (stG h acc) = .ok (.nx [x0, some (.mut h.length), some (.dat d)]) (stG h (adjS acc d)) := by
  have e1 := new_one (C := C) (x0 := x0) (h := h) hn ha hd
  generalize hc : (acc.isEmpty || (match acc.getLast? with | some y => !PyData.eqv y d | none => true)) = c at e1
  have e2 : den C (.ite (.or (.cmp .eq (.v 1) (.lst .nil)) (.cmp .ne (.ix (.v 1) (.neg (.c (.int 1)))) (.v 2))) (.lst (.cons (.v 2) .nil)) (.lst .nil)) [x0, some (.mut h.length), some (.dat d)] (stG h acc) = .ok (.dat (.list (if c = true then [d] else []))) (stG h acc) := by
    rw [den_ite]
    refine (M.at_bind e1).trans ?_
    refine (M.at_bind (M.rd_at (tru_b _ _))).trans ?_
    cases c with
    | true => rw [if_pos rfl, if_pos rfl]; rfl
    | false => rw [if_neg Bool.false_ne_true, if_neg Bool.false_ne_true]; rfl
  rw [adj_cond c hc.symm, denSs_cons, denS_ex]
  have e3 := ext_with (C := C) (x0 := x0) (h := h) (acc := acc) (d := d) (if c = true then [d] else []) (by split <;> simp <;> omega) e2
  have e4 : acc ++ (if c = true then [d] else []) = if c = true then acc ++ [d] else acc := by
    cases c with
    | true => rfl
    | false => exact List.append_nil _
  rw [e4] at e3
  exact (M.at_bind (a := Oc.nx [x0, some (.mut h.length), some (.dat d)]) (h' := stG h (if c = true then acc ++ [d] else acc)) ((M.at_bind e3).trans rfl)).trans rfl
end
theorem sorted_facts (k : Nat) (x : D) (xs : List PyData) (hx : ∀ h, srtOf h x = some xs) (hG : ∀ d ∈ xs, isFact d) (hl : xs.length ≤ 1000) (h : Store) : callN TT (k + 3) 25 [x] h = .ok (.dat (.tuple (ascL factK xs))) (h ++ [none]) := by
  rw [call_step (f := ⟨3, 1, b25⟩) rfl, run_at (n := 3) (p := 1) (by rfl)]
  have src := srtl_pure (C := callN TT (k + 2)) (ρ := [some x, some (.mut h.length), none]) (e := .v 0) (b := .call 23 (.cons (.v 0) .nil)) goodF rfl hx hG (fun d hd => law_fact_key k d (hG d hd)) (by omega)
  have g := gather (C := callN TT (k + 2)) (x0 := some x) (h := h) (n := 3) (w := 180) src (fun acc d ha hd hl => turn_app (by omega) ha hd hl) (fun y hy => fact_ok (hG y ((sortD_mem xs y).mp hy))) (by rw [sortD_len]; exact hl)
  refine (M.at_bind g).trans ?_
  show Res.ok (D.dat (.tuple (adjL factK xs))) (h ++ [none]) = _
  rw [adj_asc goodF hG]
theorem sorted_tellings (k : Nat) (x : D) (xs : List PyData) (hx : ∀ h, srtOf h x = some xs) (hG : ∀ d ∈ xs, isTel d) (hl : xs.length ≤ 1000) (h : Store) : callN TT (k + 3) 26 [x] h = .ok (.dat (.tuple (ascL telK xs))) (h ++ [none]) := by
  rw [call_step (f := ⟨3, 1, b26⟩) rfl, run_at (n := 3) (p := 1) (by rfl)]
  have src := srtl_pure (C := callN TT (k + 2)) (ρ := [some x, some (.mut h.length), none]) (e := .v 0) (b := .call 24 (.cons (.v 0) .nil)) goodL rfl hx hG (fun d hd => law_telling_key k d (hG d hd)) (by omega)
  have g := gather (C := callN TT (k + 2)) (x0 := some x) (h := h) (n := 3) (w := 200) src (fun acc d ha hd hl => turn_app (by omega) ha hd hl) (fun y hy => (tel_ok (hG y ((sortD_mem xs y).mp hy))).1) (by rw [sortD_len]; exact hl)
  refine (M.at_bind g).trans ?_
  show Res.ok (D.dat (.tuple (adjL telK xs))) (h ++ [none]) = _
  rw [adj_asc goodL hG]
theorem sorted_terms (k : Nat) (x : D) (xs : List PyData) (hx : ∀ h, srtOf h x = some xs) (hG : ∀ d ∈ xs, d ∈ termsL) (hl : xs.length ≤ 1000) (h : Store) : callN TT (k + 2) 29 [x] h = .ok (.dat (.tuple (ascL keyT xs))) (h ++ [none]) := by
  rw [call_step (f := ⟨3, 1, b29⟩) rfl, run_at (n := 3) (p := 1) (by rfl)]
  have src := srtl_pure (C := callN TT (k + 1)) (ρ := [some x, some (.mut h.length), none]) (e := .v 0) (b := .call 22 (.cons (.v 0) .nil)) goodT rfl hx hG (fun d hd => law_key k d (hG d hd)) (by omega)
  have g := gather (C := callN TT (k + 1)) (x0 := some x) (h := h) (n := 1) (w := 25) src (fun acc d ha hd hl => turn_ext (by omega) ha hd hl) (fun y hy => ok_of (term_ok y (hG y ((sortD_mem xs y).mp hy))).1) (by rw [sortD_len]; exact hl)
  refine (M.at_bind g).trans ?_
  show Res.ok (D.dat (.tuple (adjL keyT xs))) (h ++ [none]) = _
  rw [adj_asc goodT hG]
/-- the same, asked -/
theorem law_alike (k : Nat) (a : PyData) {n w : Nat} (h : Ok n w a) (hn : n ≤ 64) (hw : w ≤ 16777216) : callN TT (k + 1) 16 [.dat a, .dat a] = M.ret (.dat (.bool true)) := by
  rw [call_step (f := ⟨2, 2, b16⟩) rfl, run_at (n := 2) (p := 2) (by rfl)]
  unfold b16
  (simp only [at_0, at_1, sz0, sz1, sz2, sz3, sz4, sz5, sz6, sz7, sz8, den_neg, den_c, den_v, den_g, den_tup, den_lst, den_bin, den_neg, den_cmp, den_and, den_or, den_not, den_ite, den_ix, den_sl, den_call, den_bi, den_isi, den_get2, dens_nil, dens_cons, deno_none, deno_some, denc_none, denc_some, denIt_seq, denS_set, denS_par, denS_ret, denS_ex, denS_ite, denSs_nil, denSs_cons, rdD_dat, tru_b, tru_i, tru_l, add_i, sub_i, mul_i, fdiv_i, mod_i, add_t, add_l, cmp_eq, cmp_ne, cmp_lt, cmp_ge, cmp_gt, ix_l, ix_t, ix_m, sl_l, bi_tuple_l, bi_list_t, bi_list_l, bi_len_l, bi_len_t, bi_int_i, items_l, items_t, isi_tt, isi_it, isi_st, asInt_i, datAll_nil, datAll_cons, shaped_i, M.ret_bind, M.bind_assoc, M.opt_some, M.rd_const, quiet_ret, List.map_cons, List.map_nil, List.replicate, List.cons_append, List.nil_append, List.getElem?_cons_zero, List.getElem?_cons_succ, join_ss, Option.map_some, Option.bind_some, List.set_cons_zero, List.set_cons_succ, List.length_cons, List.length_nil, ↓reduceIte, Bool.false_eq_true, Bool.not_true, Bool.not_false, Bool.and_self])
  simp only [h.repr hn hw]
  (simp only [at_0, at_1, sz0, sz1, sz2, sz3, sz4, sz5, sz6, sz7, sz8, den_neg, den_c, den_v, den_g, den_tup, den_lst, den_bin, den_neg, den_cmp, den_and, den_or, den_not, den_ite, den_ix, den_sl, den_call, den_bi, den_isi, den_get2, dens_nil, dens_cons, deno_none, deno_some, denc_none, denc_some, denIt_seq, denS_set, denS_par, denS_ret, denS_ex, denS_ite, denSs_nil, denSs_cons, rdD_dat, tru_b, tru_i, tru_l, add_i, sub_i, mul_i, fdiv_i, mod_i, add_t, add_l, cmp_eq, cmp_ne, cmp_lt, cmp_ge, cmp_gt, ix_l, ix_t, ix_m, sl_l, bi_tuple_l, bi_list_t, bi_list_l, bi_len_l, bi_len_t, bi_int_i, items_l, items_t, isi_tt, isi_it, isi_st, asInt_i, datAll_nil, datAll_cons, shaped_i, M.ret_bind, M.bind_assoc, M.opt_some, M.rd_const, quiet_ret, List.map_cons, List.map_nil, List.replicate, List.cons_append, List.nil_append, List.getElem?_cons_zero, List.getElem?_cons_succ, join_ss, Option.map_some, Option.bind_some, List.set_cons_zero, List.set_cons_succ, List.length_cons, List.length_nil, ↓reduceIte, Bool.false_eq_true, Bool.not_true, Bool.not_false, Bool.and_self])
  have e1 : eqOk (.str a.shown) (.str a.shown) = true := rfl
  have e2 : PyData.eqv (.str a.shown) (.str a.shown) = true := beq_self_eq_true a.shown
  have e3 : eqOk a a = true := eqOk_of h h hn hn
  have e4 : PyData.eqv a a = true := eqv_self h.cl
  simp only [e1, e2, e3, e4]
  (simp only [at_0, at_1, sz0, sz1, sz2, sz3, sz4, sz5, sz6, sz7, sz8, den_neg, den_c, den_v, den_g, den_tup, den_lst, den_bin, den_neg, den_cmp, den_and, den_or, den_not, den_ite, den_ix, den_sl, den_call, den_bi, den_isi, den_get2, dens_nil, dens_cons, deno_none, deno_some, denc_none, denc_some, denIt_seq, denS_set, denS_par, denS_ret, denS_ex, denS_ite, denSs_nil, denSs_cons, rdD_dat, tru_b, tru_i, tru_l, add_i, sub_i, mul_i, fdiv_i, mod_i, add_t, add_l, cmp_eq, cmp_ne, cmp_lt, cmp_ge, cmp_gt, ix_l, ix_t, ix_m, sl_l, bi_tuple_l, bi_list_t, bi_list_l, bi_len_l, bi_len_t, bi_int_i, items_l, items_t, isi_tt, isi_it, isi_st, asInt_i, datAll_nil, datAll_cons, shaped_i, M.ret_bind, M.bind_assoc, M.opt_some, M.rd_const, quiet_ret, List.map_cons, List.map_nil, List.replicate, List.cons_append, List.nil_append, List.getElem?_cons_zero, List.getElem?_cons_succ, join_ss, Option.map_some, Option.bind_some, List.set_cons_zero, List.set_cons_succ, List.length_cons, List.length_nil, ↓reduceIte, Bool.false_eq_true, Bool.not_true, Bool.not_false, Bool.and_self])
end K01
end
section
set_option Elab.async false
set_option linter.all false
set_option maxRecDepth 100000
/-! The law k01, plain: variables and values. -/
namespace K01
open PySem DL
def termsOf : PyData → List PyData
  | .tuple [_, .tuple ts] => ts
  | _ => []
def varN : PyData → PyData
  | .tuple [_, s] => s
  | _ => .none
theorem fact_terms {d : PyData} (h : isFact d) : (termsOf d).length ≤ 3 ∧ ∀ t ∈ termsOf d, t ∈ termsL := by
  obtain ⟨s, ts, rfl, hs, ht, hl⟩ := h
  exact ⟨hl, ht⟩
theorem var_is {t : PyData} (h : t ∈ termsL) (hv : isVarD t = true) : ∃ s ∈ nm8, t = .tuple [.str "var", .str s] := by
  rcases List.mem_append.mp h with q | q
  · exfalso
    have : ∀ t ∈ valsL, isVarD t = false := by decide +kernel
    rw [this t q] at hv; cases hv
  · obtain ⟨s, hs, rfl⟩ := List.mem_map.mp q
    exact ⟨s, hs, rfl⟩
/-- all names of variables, by facts -/
def varsOf (xs : List PyData) : List PyData := xs.flatMap fun f => ((termsOf f).filter isVarD).map varN
theorem varsOf_mem {xs : List PyData} (hG : ∀ d ∈ xs, isFact d) : ∀ v ∈ varsOf xs, ∃ s, v = .str s ∧ s ∈ nm8 := by
  intro v hv
  obtain ⟨f, hf, hv⟩ := List.mem_flatMap.mp hv
  obtain ⟨t, ht, rfl⟩ := List.mem_map.mp hv
  obtain ⟨h1, h2⟩ := List.mem_filter.mp ht
  obtain ⟨s, hs, rfl⟩ := var_is ((fact_terms (hG f hf)).2 t h1) h2
  exact ⟨s, rfl, hs⟩
/-- texts sorted: a dict's keys -/
theorem srt_dic {C : Nat → List D → M D} {ρ : Rho} {e : Ex} {ks : List PyData} (he : den C e ρ = .ret (.dic (trues ks))) (hk : ∀ v ∈ ks, ∃ s : Str, v = .str s) (hl : ks.length ≤ 16777216) : den C (.srt e) ρ = .ret (.dat (.list (sortD ks ks))) := by
  have ok : sortOk ks = true := by
    unfold sortOk allAlike
    simp only [Bool.and_eq_true, List.all_eq_true, decide_eq_true_eq]
    refine ⟨⟨fun d hd d' hd' => ?_, fun d hd => ?_⟩, hl⟩
    · obtain ⟨s, rfl⟩ := hk d hd
      obtain ⟨s', rfl⟩ := hk d' hd'
      simp [PySem.W.alike]
    · obtain ⟨s, rfl⟩ := hk d hd
      exact ⟨by simp [PyData.depth], rfl⟩
  funext h
  show ((den C e ρ).bind _) h = _
  rw [he, M.ret_bind]
  show (match some ((trues ks).map (·.1)) with
          | some xs => if sortOk xs then Res.ok (D.dat (.list (sortD xs xs))) h else .no
          | none => .no) = _
  rw [trues_keys]
  show (if sortOk ks = true then _ else _) = _
  rw [if_pos ok]; rfl
theorem dd_str {vs : List PyData} (h : ∀ v ∈ vs, ∃ s, v = PyData.str s ∧ s ∈ nm8) : ∀ v ∈ dd vs, ∃ s : Str, v = .str s := fun v hv => by
  rcases sput_sub vs [] v hv with q | q
  · cases q
  · obtain ⟨s, rfl, _⟩ := h v q
    exact ⟨s, rfl⟩
theorem vlen (xs : List PyData) (hG : ∀ d ∈ xs, isFact d) : (varsOf xs).length ≤ xs.length * 3 := by
  induction xs with
  | nil => exact Nat.le_refl _
  | cons d xs ih =>
    have h1 := (fact_terms (hG d List.mem_cons_self)).1
    have h2 := ih fun x hx => hG x (List.mem_cons_of_mem _ hx)
    show (((termsOf d).filter isVarD).map varN ++ varsOf xs).length ≤ _
    rw [List.length_append, List.length_map, List.length_cons, Nat.succ_mul]
    have := List.length_filter_le isVarD (termsOf d)
    omega
theorem variables (k : Nat) (xs : List PyData) (x : D) (hi : ∀ h, itemsD h x = some (xs.map .dat)) (hG : ∀ d ∈ xs, isFact d) (hl : xs.length ≤ 100) : callN TT (k + 4) 9 [x] = M.ret (.dat (.tuple (sortD (dd (varsOf xs)) (dd (varsOf xs))))) := by
  rw [call_step (f := ⟨4, 1, b9⟩) rfl, run_at (n := 4) (p := 1) (by rfl)]
  unfold b9
  have e1 : den (callN TT (k + 3)) (.dc2 (.ix (.v 3) (.c (.int 1))) (.mk [1, 2, 3] (.tup [1, 2]) (.seq (.v 0)) .none) (.mk [1, 2, 3] (.name 3) (.seq (.v 2)) (.some (.call 3 (.cons (.v 3) .nil))))) [some x, none, none, none] = .ret (.dic (trues (dd (varsOf xs)))) := by
    refine dc2_pure (ds := xs) (ys := termsOf) (p := isVarD) (g := varN) (n := 3) ?_ (fun d hd => ?_) (fun d hd y hy hp => ?_) (fun d hd => (fact_terms (hG d hd)).1) (by omega)
    · rw [denIt_seq, den_v, List.getElem?_cons_zero, join_ss, M.opt_some, M.ret_bind]
      rw [show (fun h => itemsD h x) = fun _ => some (xs.map .dat) from funext hi, M.rd_const]
    · obtain ⟨s, ts, rfl, hs, ht, htl⟩ := hG d hd
      refine ⟨_, rfl, rfl, fun y hy => ?_⟩
      have hyt := ht y hy
      refine ⟨_, rfl, ?_, fun hp => ?_⟩
      · show denc (callN TT (k + 3)) (.some (.call 3 (.cons (.v 3) .nil))) [some x, some (.dat (.str s)), some (.dat (.tuple ts)), some (.dat y)] = _
        (simp only [at_0, at_1, sz0, sz1, sz2, sz3, sz4, sz5, sz6, sz7, sz8, den_neg, den_c, den_v, den_g, den_tup, den_lst, den_bin, den_neg, den_cmp, den_and, den_or, den_not, den_ite, den_ix, den_sl, den_call, den_bi, den_isi, den_get2, dens_nil, dens_cons, deno_none, deno_some, denc_none, denc_some, denIt_seq, denS_set, denS_par, denS_ret, denS_ex, denS_ite, denSs_nil, denSs_cons, rdD_dat, tru_b, tru_i, tru_l, add_i, sub_i, mul_i, fdiv_i, mod_i, add_t, add_l, cmp_eq, cmp_ne, cmp_lt, cmp_ge, cmp_gt, ix_l, ix_t, ix_m, sl_l, bi_tuple_l, bi_list_t, bi_list_l, bi_len_l, bi_len_t, bi_int_i, items_l, items_t, isi_tt, isi_it, isi_st, asInt_i, datAll_nil, datAll_cons, shaped_i, M.ret_bind, M.bind_assoc, M.opt_some, M.rd_const, quiet_ret, List.map_cons, List.map_nil, List.replicate, List.cons_append, List.nil_append, List.getElem?_cons_zero, List.getElem?_cons_succ, join_ss, Option.map_some, Option.bind_some, List.set_cons_zero, List.set_cons_succ, List.length_cons, List.length_nil, ↓reduceIte, Bool.false_eq_true, Bool.not_true, Bool.not_false, Bool.and_self])
        rw [is_var (k + 1) y hyt]
        (simp only [at_0, at_1, sz0, sz1, sz2, sz3, sz4, sz5, sz6, sz7, sz8, den_neg, den_c, den_v, den_g, den_tup, den_lst, den_bin, den_neg, den_cmp, den_and, den_or, den_not, den_ite, den_ix, den_sl, den_call, den_bi, den_isi, den_get2, dens_nil, dens_cons, deno_none, deno_some, denc_none, denc_some, denIt_seq, denS_set, denS_par, denS_ret, denS_ex, denS_ite, denSs_nil, denSs_cons, rdD_dat, tru_b, tru_i, tru_l, add_i, sub_i, mul_i, fdiv_i, mod_i, add_t, add_l, cmp_eq, cmp_ne, cmp_lt, cmp_ge, cmp_gt, ix_l, ix_t, ix_m, sl_l, bi_tuple_l, bi_list_t, bi_list_l, bi_len_l, bi_len_t, bi_int_i, items_l, items_t, isi_tt, isi_it, isi_st, asInt_i, datAll_nil, datAll_cons, shaped_i, M.ret_bind, M.bind_assoc, M.opt_some, M.rd_const, quiet_ret, List.map_cons, List.map_nil, List.replicate, List.cons_append, List.nil_append, List.getElem?_cons_zero, List.getElem?_cons_succ, join_ss, Option.map_some, Option.bind_some, List.set_cons_zero, List.set_cons_succ, List.length_cons, List.length_nil, ↓reduceIte, Bool.false_eq_true, Bool.not_true, Bool.not_false, Bool.and_self])
      · obtain ⟨s', hs', rfl⟩ := var_is hyt hp
        rfl
    · obtain ⟨s', hs', rfl⟩ := var_is ((fact_terms (hG d hd)).2 y hy) hp
      exact (name_ok s' hs').2
  have hlen : (dd (varsOf xs)).length ≤ 16777216 := by
    have h1 := sput_lens (varsOf xs) []
    have h2 := vlen xs hG
    show ((varsOf xs).foldl sput []).length ≤ _
    simp only [List.length_nil, Nat.zero_add] at h1
    omega
  have e2 := srt_dic e1 (dd_str (varsOf_mem hG)) hlen
  (simp only [at_0, at_1, sz0, sz1, sz2, sz3, sz4, sz5, sz6, sz7, sz8, den_neg, den_c, den_v, den_g, den_tup, den_lst, den_bin, den_neg, den_cmp, den_and, den_or, den_not, den_ite, den_ix, den_sl, den_call, den_bi, den_isi, den_get2, dens_nil, dens_cons, deno_none, deno_some, denc_none, denc_some, denIt_seq, denS_set, denS_par, denS_ret, denS_ex, denS_ite, denSs_nil, denSs_cons, rdD_dat, tru_b, tru_i, tru_l, add_i, sub_i, mul_i, fdiv_i, mod_i, add_t, add_l, cmp_eq, cmp_ne, cmp_lt, cmp_ge, cmp_gt, ix_l, ix_t, ix_m, sl_l, bi_tuple_l, bi_list_t, bi_list_l, bi_len_l, bi_len_t, bi_int_i, items_l, items_t, isi_tt, isi_it, isi_st, asInt_i, datAll_nil, datAll_cons, shaped_i, M.ret_bind, M.bind_assoc, M.opt_some, M.rd_const, quiet_ret, List.map_cons, List.map_nil, List.replicate, List.cons_append, List.nil_append, List.getElem?_cons_zero, List.getElem?_cons_succ, join_ss, Option.map_some, Option.bind_some, List.set_cons_zero, List.set_cons_succ, List.length_cons, List.length_nil, ↓reduceIte, Bool.false_eq_true, Bool.not_true, Bool.not_false, Bool.and_self])
  rw [e2]
  (simp only [at_0, at_1, sz0, sz1, sz2, sz3, sz4, sz5, sz6, sz7, sz8, den_neg, den_c, den_v, den_g, den_tup, den_lst, den_bin, den_neg, den_cmp, den_and, den_or, den_not, den_ite, den_ix, den_sl, den_call, den_bi, den_isi, den_get2, dens_nil, dens_cons, deno_none, deno_some, denc_none, denc_some, denIt_seq, denS_set, denS_par, denS_ret, denS_ex, denS_ite, denSs_nil, denSs_cons, rdD_dat, tru_b, tru_i, tru_l, add_i, sub_i, mul_i, fdiv_i, mod_i, add_t, add_l, cmp_eq, cmp_ne, cmp_lt, cmp_ge, cmp_gt, ix_l, ix_t, ix_m, sl_l, bi_tuple_l, bi_list_t, bi_list_l, bi_len_l, bi_len_t, bi_int_i, items_l, items_t, isi_tt, isi_it, isi_st, asInt_i, datAll_nil, datAll_cons, shaped_i, M.ret_bind, M.bind_assoc, M.opt_some, M.rd_const, quiet_ret, List.map_cons, List.map_nil, List.replicate, List.cons_append, List.nil_append, List.getElem?_cons_zero, List.getElem?_cons_succ, join_ss, Option.map_some, Option.bind_some, List.set_cons_zero, List.set_cons_succ, List.length_cons, List.length_nil, ↓reduceIte, Bool.false_eq_true, Bool.not_true, Bool.not_false, Bool.and_self])
/-- sum(.., []) of the facts' terms -/
theorem flat_terms (C : Nat → List D → M D) (ρ : Rho) (i j : Nat) (x : D) (xs : List PyData) (hx : ρ[j]? = some (some x)) (hij : i ≠ j) (hil : i < ρ.length) (hi : ∀ h, itemsD h x = some (xs.map .dat)) (hG : ∀ d ∈ xs, isFact d) (hl : xs.length ≤ 100) :
    den C (.bi .sum2 (.cons (.lc (.bi .list (.cons (.ix (.v i) (.c (.int 1))) .nil)) (.mk [i] (.name i) (.seq (.v j)) .none)) (.cons (.lst .nil) .nil))) ρ = .ret (.dat (.list (xs.flatMap termsOf))) := by
  have e1 : den C (.lc (.bi .list (.cons (.ix (.v i) (.c (.int 1))) .nil)) (.mk [i] (.name i) (.seq (.v j)) .none)) ρ = .ret (.dat (.list (xs.map fun f => .list (termsOf f)))) := by
    refine lc_all (ds := xs) (g := fun f => .list (termsOf f)) ?_ (fun d hd => ?_) (by omega)
    · rw [denIt_seq, den_v, hx, join_ss, M.opt_some, M.ret_bind, show (fun h => itemsD h x) = fun _ => some (xs.map .dat) from funext hi, M.rd_const]
    · obtain ⟨s, ts, rfl, hs, ht, htl⟩ := hG d hd
      refine ⟨_, rfl, ?_⟩
      have hv : den C (.v i) ((wipeR ρ [i]).set i (some (.dat (.tuple [.str s, .tuple ts])))) = .ret (.dat (.tuple [.str s, .tuple ts])) := by
        rw [den_v, List.getElem?_set_self (by show i < (ρ.set i none).length; rw [List.length_set]; exact hil), join_ss, M.opt_some]
      rw [den_bi, dens_cons, dens_nil, den_ix, hv]
      rfl
  have hflat : ∀ xs : List PyData, listsOf (xs.map fun f => PyData.list (termsOf f)) = some (xs.map termsOf) := by
    intro xs
    induction xs with
    | nil => rfl
    | cons a xs ih =>
      show (listsOf (xs.map fun f => PyData.list (termsOf f))).map (termsOf a :: ·) = _
      rw [ih]; rfl
  have hsum : ∀ xs : List PyData, (∀ d ∈ xs, isFact d) → ((xs.map termsOf).map (·.length)).sum ≤ xs.length * 3 := by
    intro xs
    induction xs with
    | nil => intro _; exact Nat.le_refl _
    | cons a xs ih =>
      intro h
      have h1 := (fact_terms (h a List.mem_cons_self)).1
      have h2 := ih fun x hx => h x (List.mem_cons_of_mem _ hx)
      rw [List.map_cons, List.map_cons, List.sum_cons, List.length_cons, Nat.succ_mul]
      omega
  rw [den_bi, dens_cons, e1, M.ret_bind]
  have e2 : dens C (.cons (.lst .nil) .nil) ρ = .ret [.dat (.list [])] := rfl
  rw [e2, M.ret_bind, M.ret_bind]
  have e3 : (fun h => opBi .sum2 h [.dat (.list (xs.map fun f => .list (termsOf f))), .dat (.list [])]) = fun _ => some (D.dat (.list (xs.flatMap termsOf))) := by
    funext h
    show ((listsOf (xs.map fun f => PyData.list (termsOf f))).bind fun ls => if szOk (ls.map (·.length)).sum then some (D.dat (.list ls.flatten)) else none) = _
    rw [hflat, Option.bind_some, if_pos (show szOk _ = true from decide_eq_true (by have := hsum xs hG; omega))]
    rfl
  rw [e3, M.rd_const]
theorem vars_flat : ∀ xs : List PyData, ((xs.flatMap termsOf).filter isVarD).map varN = varsOf xs
  | [] => rfl
  | a :: xs => by
    have ih := vars_flat xs
    unfold varsOf at ih ⊢
    rw [List.flatMap_cons, List.flatMap_cons, List.filter_append, List.map_append, ih]
theorem law_vars (k : Nat) (xs : List PyData) (x : D) (hi : ∀ h, itemsD h x = some (xs.map .dat)) (hG : ∀ d ∈ xs, isFact d) (hl : xs.length ≤ 100) : callN TT (k + 1) 28 [x] = M.ret (.dat (.list (sortD (dd (varsOf xs)) (dd (varsOf xs))))) := by
  rw [call_step (f := ⟨3, 1, b28⟩) rfl, run_at (n := 3) (p := 1) (by rfl)]
  unfold b28
  have hmem : ∀ t ∈ xs.flatMap termsOf, t ∈ termsL := fun t ht => by
    obtain ⟨f, hf, h⟩ := List.mem_flatMap.mp ht
    exact (fact_terms (hG f hf)).2 t h
  have hfl : (xs.flatMap termsOf).length ≤ 300 := by
    have : ∀ xs : List PyData, (∀ d ∈ xs, isFact d) → (xs.flatMap termsOf).length ≤ xs.length * 3 := by
      intro xs
      induction xs with
      | nil => intro _; exact Nat.le_refl _
      | cons a xs ih =>
        intro h
        have h1 := (fact_terms (h a List.mem_cons_self)).1
        have h2 := ih fun x hx => h x (List.mem_cons_of_mem _ hx)
        rw [List.flatMap_cons, List.length_append, List.length_cons, Nat.succ_mul]
        omega
    have := this xs hG
    omega
  have e1 : den (callN TT k) (.lc (.ix (.v 1) (.c (.int 1))) (.mk [1] (.name 1) (.seq (.bi .sum2 (.cons (.lc (.bi .list (.cons (.ix (.v 2) (.c (.int 1))) .nil)) (.mk [2] (.name 2) (.seq (.v 0)) .none)) (.cons (.lst .nil) .nil)))) (.some (.isi (.v 1) .tuple)))) [some x, none, none] = .ret (.dat (.list (((xs.flatMap termsOf).filter isVarD).map varN))) := by
    refine lc_pure (ds := xs.flatMap termsOf) (p := isVarD) (g := varN) ?_ (fun t ht => ?_) (by omega)
    · rw [denIt_seq, flat_terms (callN TT k) [some x, none, none] 2 0 x xs rfl (by decide) (by simp) hi hG hl, M.ret_bind]; rfl
    · refine ⟨_, rfl, ?_, fun hp => ?_⟩
      · have : ∀ t ∈ termsL, opIsi .tuple (.dat t) = some (isVarD t) := by
          simp only [termsL, valsL, varsL, nm8, List.map_cons, List.map_nil, List.cons_append, List.nil_append, List.forall_mem_cons]
          refine ⟨rfl, rfl, rfl, rfl, rfl, rfl, rfl, rfl, rfl, rfl, rfl, rfl, rfl, rfl, rfl, rfl, rfl, rfl, rfl, rfl, rfl, fun _ h => nomatch h⟩
        show denc (callN TT k) (.some (.isi (.v 1) .tuple)) [some x, some (.dat t), none] = _
        (simp only [at_0, at_1, sz0, sz1, sz2, sz3, sz4, sz5, sz6, sz7, sz8, den_neg, den_c, den_v, den_g, den_tup, den_lst, den_bin, den_neg, den_cmp, den_and, den_or, den_not, den_ite, den_ix, den_sl, den_call, den_bi, den_isi, den_get2, dens_nil, dens_cons, deno_none, deno_some, denc_none, denc_some, denIt_seq, denS_set, denS_par, denS_ret, denS_ex, denS_ite, denSs_nil, denSs_cons, rdD_dat, tru_b, tru_i, tru_l, add_i, sub_i, mul_i, fdiv_i, mod_i, add_t, add_l, cmp_eq, cmp_ne, cmp_lt, cmp_ge, cmp_gt, ix_l, ix_t, ix_m, sl_l, bi_tuple_l, bi_list_t, bi_list_l, bi_len_l, bi_len_t, bi_int_i, items_l, items_t, isi_tt, isi_it, isi_st, asInt_i, datAll_nil, datAll_cons, shaped_i, M.ret_bind, M.bind_assoc, M.opt_some, M.rd_const, quiet_ret, List.map_cons, List.map_nil, List.replicate, List.cons_append, List.nil_append, List.getElem?_cons_zero, List.getElem?_cons_succ, join_ss, Option.map_some, Option.bind_some, List.set_cons_zero, List.set_cons_succ, List.length_cons, List.length_nil, ↓reduceIte, Bool.false_eq_true, Bool.not_true, Bool.not_false, Bool.and_self])
        rw [this t (hmem t ht)]
        (simp only [at_0, at_1, sz0, sz1, sz2, sz3, sz4, sz5, sz6, sz7, sz8, den_neg, den_c, den_v, den_g, den_tup, den_lst, den_bin, den_neg, den_cmp, den_and, den_or, den_not, den_ite, den_ix, den_sl, den_call, den_bi, den_isi, den_get2, dens_nil, dens_cons, deno_none, deno_some, denc_none, denc_some, denIt_seq, denS_set, denS_par, denS_ret, denS_ex, denS_ite, denSs_nil, denSs_cons, rdD_dat, tru_b, tru_i, tru_l, add_i, sub_i, mul_i, fdiv_i, mod_i, add_t, add_l, cmp_eq, cmp_ne, cmp_lt, cmp_ge, cmp_gt, ix_l, ix_t, ix_m, sl_l, bi_tuple_l, bi_list_t, bi_list_l, bi_len_l, bi_len_t, bi_int_i, items_l, items_t, isi_tt, isi_it, isi_st, asInt_i, datAll_nil, datAll_cons, shaped_i, M.ret_bind, M.bind_assoc, M.opt_some, M.rd_const, quiet_ret, List.map_cons, List.map_nil, List.replicate, List.cons_append, List.nil_append, List.getElem?_cons_zero, List.getElem?_cons_succ, join_ss, Option.map_some, Option.bind_some, List.set_cons_zero, List.set_cons_succ, List.length_cons, List.length_nil, ↓reduceIte, Bool.false_eq_true, Bool.not_true, Bool.not_false, Bool.and_self])
      · obtain ⟨s', hs', rfl⟩ := var_is (hmem t ht) hp
        rfl
  rw [vars_flat xs] at e1
  obtain ⟨ss, es, hs⟩ := strs_of (varsOf xs) (varsOf_mem hG)
  rw [es] at e1 ⊢
  have hss : ss.length ≤ 1000 := by
    have := vlen xs hG
    rw [es, List.length_map] at this
    omega
  have e2 := srt_set e1 hss
  (simp only [at_0, at_1, sz0, sz1, sz2, sz3, sz4, sz5, sz6, sz7, sz8, den_neg, den_c, den_v, den_g, den_tup, den_lst, den_bin, den_neg, den_cmp, den_and, den_or, den_not, den_ite, den_ix, den_sl, den_call, den_bi, den_isi, den_get2, dens_nil, dens_cons, deno_none, deno_some, denc_none, denc_some, denIt_seq, denS_set, denS_par, denS_ret, denS_ex, denS_ite, denSs_nil, denSs_cons, rdD_dat, tru_b, tru_i, tru_l, add_i, sub_i, mul_i, fdiv_i, mod_i, add_t, add_l, cmp_eq, cmp_ne, cmp_lt, cmp_ge, cmp_gt, ix_l, ix_t, ix_m, sl_l, bi_tuple_l, bi_list_t, bi_list_l, bi_len_l, bi_len_t, bi_int_i, items_l, items_t, isi_tt, isi_it, isi_st, asInt_i, datAll_nil, datAll_cons, shaped_i, M.ret_bind, M.bind_assoc, M.opt_some, M.rd_const, quiet_ret, List.map_cons, List.map_nil, List.replicate, List.cons_append, List.nil_append, List.getElem?_cons_zero, List.getElem?_cons_succ, join_ss, Option.map_some, Option.bind_some, List.set_cons_zero, List.set_cons_succ, List.length_cons, List.length_nil, ↓reduceIte, Bool.false_eq_true, Bool.not_true, Bool.not_false, Bool.and_self])
  rw [e2]
  (simp only [at_0, at_1, sz0, sz1, sz2, sz3, sz4, sz5, sz6, sz7, sz8, den_neg, den_c, den_v, den_g, den_tup, den_lst, den_bin, den_neg, den_cmp, den_and, den_or, den_not, den_ite, den_ix, den_sl, den_call, den_bi, den_isi, den_get2, dens_nil, dens_cons, deno_none, deno_some, denc_none, denc_some, denIt_seq, denS_set, denS_par, denS_ret, denS_ex, denS_ite, denSs_nil, denSs_cons, rdD_dat, tru_b, tru_i, tru_l, add_i, sub_i, mul_i, fdiv_i, mod_i, add_t, add_l, cmp_eq, cmp_ne, cmp_lt, cmp_ge, cmp_gt, ix_l, ix_t, ix_m, sl_l, bi_tuple_l, bi_list_t, bi_list_l, bi_len_l, bi_len_t, bi_int_i, items_l, items_t, isi_tt, isi_it, isi_st, asInt_i, datAll_nil, datAll_cons, shaped_i, M.ret_bind, M.bind_assoc, M.opt_some, M.rd_const, quiet_ret, List.map_cons, List.map_nil, List.replicate, List.cons_append, List.nil_append, List.getElem?_cons_zero, List.getElem?_cons_succ, join_ss, Option.map_some, Option.bind_some, List.set_cons_zero, List.set_cons_succ, List.length_cons, List.length_nil, ↓reduceIte, Bool.false_eq_true, Bool.not_true, Bool.not_false, Bool.and_self])
end K01
end
section
set_option Elab.async false
set_option linter.all false
set_option maxRecDepth 100000
/-! The law k01, plain: values, ascending ones. -/
namespace K01
open PySem DL
def valsOf (xs : List PyData) : List PyData := xs.flatMap fun f => ((termsOf f).filter fun t => !isVarD t).map id
theorem valsOf_mem {xs : List PyData} (hG : ∀ d ∈ xs, isFact d) : ∀ v ∈ valsOf xs, v ∈ termsL := by
  intro v hv
  obtain ⟨f, hf, hv⟩ := List.mem_flatMap.mp hv
  rw [List.map_id] at hv
  exact (fact_terms (hG f hf)).2 v (List.mem_filter.mp hv).1
theorem valsOf_len (xs : List PyData) (hG : ∀ d ∈ xs, isFact d) : (valsOf xs).length ≤ xs.length * 3 := by
  induction xs with
  | nil => exact Nat.le_refl _
  | cons d xs ih =>
    have h1 := (fact_terms (hG d List.mem_cons_self)).1
    have h2 := ih fun x hx => hG x (List.mem_cons_of_mem _ hx)
    show (((termsOf d).filter fun t => !isVarD t).map id ++ valsOf xs).length ≤ _
    rw [List.length_append, List.length_map, List.length_cons, Nat.succ_mul]
    have := List.length_filter_le (fun t => !isVarD t) (termsOf d)
    omega
theorem vals_flat : ∀ xs : List PyData, ((xs.flatMap termsOf).filter fun t => !isVarD t).map id = valsOf xs
  | [] => rfl
  | a :: xs => by
    have ih := vals_flat xs
    unfold valsOf at ih ⊢
    rw [List.flatMap_cons, List.flatMap_cons, List.filter_append, List.map_append, ih]
theorem values_in (k : Nat) (xs : List PyData) (x : D) (hi : ∀ h, itemsD h x = some (xs.map .dat)) (hG : ∀ d ∈ xs, isFact d) (hl : xs.length ≤ 100) : callN TT (k + 5) 11 [x] = M.ret (.dat (.tuple (ascL keyT (valsOf xs)))) := by
  rw [call_step (f := ⟨4, 1, b11⟩) rfl, run_at (n := 4) (p := 1) (by rfl)]
  unfold b11
  have e1 : den (callN TT (k + 4)) (.lc2 (.v 3) (.mk [1, 2, 3] (.tup [1, 2]) (.seq (.v 0)) .none) (.mk [1, 2, 3] (.name 3) (.seq (.v 2)) (.some (.not (.call 3 (.cons (.v 3) .nil)))))) [some x, none, none, none] = .ret (.dat (.list (valsOf xs))) := by
    refine lc2_pure (ds := xs) (ys := termsOf) (p := fun t => !isVarD t) (g := id) (n := 3) ?_ (fun d hd => ?_) (fun d hd => (fact_terms (hG d hd)).1) (by omega)
    · rw [denIt_seq, den_v, List.getElem?_cons_zero, join_ss, M.opt_some, M.ret_bind]
      rw [show (fun h => itemsD h x) = fun _ => some (xs.map .dat) from funext hi, M.rd_const]
    · obtain ⟨s, ts, rfl, hs, ht, htl⟩ := hG d hd
      refine ⟨_, rfl, rfl, fun y hy => ?_⟩
      have hyt := ht y hy
      refine ⟨_, rfl, ?_, fun hp => rfl⟩
      show denc (callN TT (k + 4)) (.some (.not (.call 3 (.cons (.v 3) .nil)))) [some x, some (.dat (.str s)), some (.dat (.tuple ts)), some (.dat y)] = _
      (simp only [at_0, at_1, sz0, sz1, sz2, sz3, sz4, sz5, sz6, sz7, sz8, den_neg, den_c, den_v, den_g, den_tup, den_lst, den_bin, den_neg, den_cmp, den_and, den_or, den_not, den_ite, den_ix, den_sl, den_call, den_bi, den_isi, den_get2, dens_nil, dens_cons, deno_none, deno_some, denc_none, denc_some, denIt_seq, denS_set, denS_par, denS_ret, denS_ex, denS_ite, denSs_nil, denSs_cons, rdD_dat, tru_b, tru_i, tru_l, add_i, sub_i, mul_i, fdiv_i, mod_i, add_t, add_l, cmp_eq, cmp_ne, cmp_lt, cmp_ge, cmp_gt, ix_l, ix_t, ix_m, sl_l, bi_tuple_l, bi_list_t, bi_list_l, bi_len_l, bi_len_t, bi_int_i, items_l, items_t, isi_tt, isi_it, isi_st, asInt_i, datAll_nil, datAll_cons, shaped_i, M.ret_bind, M.bind_assoc, M.opt_some, M.rd_const, quiet_ret, List.map_cons, List.map_nil, List.replicate, List.cons_append, List.nil_append, List.getElem?_cons_zero, List.getElem?_cons_succ, join_ss, Option.map_some, Option.bind_some, List.set_cons_zero, List.set_cons_succ, List.length_cons, List.length_nil, ↓reduceIte, Bool.false_eq_true, Bool.not_true, Bool.not_false, Bool.and_self])
      rw [is_var (k + 2) y hyt]
      (simp only [at_0, at_1, sz0, sz1, sz2, sz3, sz4, sz5, sz6, sz7, sz8, den_neg, den_c, den_v, den_g, den_tup, den_lst, den_bin, den_neg, den_cmp, den_and, den_or, den_not, den_ite, den_ix, den_sl, den_call, den_bi, den_isi, den_get2, dens_nil, dens_cons, deno_none, deno_some, denc_none, denc_some, denIt_seq, denS_set, denS_par, denS_ret, denS_ex, denS_ite, denSs_nil, denSs_cons, rdD_dat, tru_b, tru_i, tru_l, add_i, sub_i, mul_i, fdiv_i, mod_i, add_t, add_l, cmp_eq, cmp_ne, cmp_lt, cmp_ge, cmp_gt, ix_l, ix_t, ix_m, sl_l, bi_tuple_l, bi_list_t, bi_list_l, bi_len_l, bi_len_t, bi_int_i, items_l, items_t, isi_tt, isi_it, isi_st, asInt_i, datAll_nil, datAll_cons, shaped_i, M.ret_bind, M.bind_assoc, M.opt_some, M.rd_const, quiet_ret, List.map_cons, List.map_nil, List.replicate, List.cons_append, List.nil_append, List.getElem?_cons_zero, List.getElem?_cons_succ, join_ss, Option.map_some, Option.bind_some, List.set_cons_zero, List.set_cons_succ, List.length_cons, List.length_nil, ↓reduceIte, Bool.false_eq_true, Bool.not_true, Bool.not_false, Bool.and_self])
  have hlen := valsOf_len xs hG
  (simp only [at_0, at_1, sz0, sz1, sz2, sz3, sz4, sz5, sz6, sz7, sz8, den_neg, den_c, den_v, den_g, den_tup, den_lst, den_bin, den_neg, den_cmp, den_and, den_or, den_not, den_ite, den_ix, den_sl, den_call, den_bi, den_isi, den_get2, dens_nil, dens_cons, deno_none, deno_some, denc_none, denc_some, denIt_seq, denS_set, denS_par, denS_ret, denS_ex, denS_ite, denSs_nil, denSs_cons, rdD_dat, tru_b, tru_i, tru_l, add_i, sub_i, mul_i, fdiv_i, mod_i, add_t, add_l, cmp_eq, cmp_ne, cmp_lt, cmp_ge, cmp_gt, ix_l, ix_t, ix_m, sl_l, bi_tuple_l, bi_list_t, bi_list_l, bi_len_l, bi_len_t, bi_int_i, items_l, items_t, isi_tt, isi_it, isi_st, asInt_i, datAll_nil, datAll_cons, shaped_i, M.ret_bind, M.bind_assoc, M.opt_some, M.rd_const, quiet_ret, List.map_cons, List.map_nil, List.replicate, List.cons_append, List.nil_append, List.getElem?_cons_zero, List.getElem?_cons_succ, join_ss, Option.map_some, Option.bind_some, List.set_cons_zero, List.set_cons_succ, List.length_cons, List.length_nil, ↓reduceIte, Bool.false_eq_true, Bool.not_true, Bool.not_false, Bool.and_self])
  rw [e1]
  (simp only [at_0, at_1, sz0, sz1, sz2, sz3, sz4, sz5, sz6, sz7, sz8, den_neg, den_c, den_v, den_g, den_tup, den_lst, den_bin, den_neg, den_cmp, den_and, den_or, den_not, den_ite, den_ix, den_sl, den_call, den_bi, den_isi, den_get2, dens_nil, dens_cons, deno_none, deno_some, denc_none, denc_some, denIt_seq, denS_set, denS_par, denS_ret, denS_ex, denS_ite, denSs_nil, denSs_cons, rdD_dat, tru_b, tru_i, tru_l, add_i, sub_i, mul_i, fdiv_i, mod_i, add_t, add_l, cmp_eq, cmp_ne, cmp_lt, cmp_ge, cmp_gt, ix_l, ix_t, ix_m, sl_l, bi_tuple_l, bi_list_t, bi_list_l, bi_len_l, bi_len_t, bi_int_i, items_l, items_t, isi_tt, isi_it, isi_st, asInt_i, datAll_nil, datAll_cons, shaped_i, M.ret_bind, M.bind_assoc, M.opt_some, M.rd_const, quiet_ret, List.map_cons, List.map_nil, List.replicate, List.cons_append, List.nil_append, List.getElem?_cons_zero, List.getElem?_cons_succ, join_ss, Option.map_some, Option.bind_some, List.set_cons_zero, List.set_cons_succ, List.length_cons, List.length_nil, ↓reduceIte, Bool.false_eq_true, Bool.not_true, Bool.not_false, Bool.and_self])
  rw [asc_terms k (.dat (.list (valsOf xs))) (valsOf xs) (fun h => rfl) (valsOf_mem hG) (by omega)]
  (simp only [at_0, at_1, sz0, sz1, sz2, sz3, sz4, sz5, sz6, sz7, sz8, den_neg, den_c, den_v, den_g, den_tup, den_lst, den_bin, den_neg, den_cmp, den_and, den_or, den_not, den_ite, den_ix, den_sl, den_call, den_bi, den_isi, den_get2, dens_nil, dens_cons, deno_none, deno_some, denc_none, denc_some, denIt_seq, denS_set, denS_par, denS_ret, denS_ex, denS_ite, denSs_nil, denSs_cons, rdD_dat, tru_b, tru_i, tru_l, add_i, sub_i, mul_i, fdiv_i, mod_i, add_t, add_l, cmp_eq, cmp_ne, cmp_lt, cmp_ge, cmp_gt, ix_l, ix_t, ix_m, sl_l, bi_tuple_l, bi_list_t, bi_list_l, bi_len_l, bi_len_t, bi_int_i, items_l, items_t, isi_tt, isi_it, isi_st, asInt_i, datAll_nil, datAll_cons, shaped_i, M.ret_bind, M.bind_assoc, M.opt_some, M.rd_const, quiet_ret, List.map_cons, List.map_nil, List.replicate, List.cons_append, List.nil_append, List.getElem?_cons_zero, List.getElem?_cons_succ, join_ss, Option.map_some, Option.bind_some, List.set_cons_zero, List.set_cons_succ, List.length_cons, List.length_nil, ↓reduceIte, Bool.false_eq_true, Bool.not_true, Bool.not_false, Bool.and_self])
/-! who ascends -/
theorem pair_adj {g : PyData → PyData} : ∀ xs : List PyData, (∀ p ∈ xs.zip (xs.drop 1), klt g p.1 p.2 = true) ↔ xs.Pairwise fun a b => klt g a b = true
  | [] => by simp
  | [a] => by simp
  | a :: b :: r => by
    have ih := pair_adj (g := g) (b :: r)
    rw [List.pairwise_cons]
    show (∀ p ∈ (a, b) :: (b :: r).zip ((b :: r).drop 1), _) ↔ _
    rw [List.forall_mem_cons, ih]
    constructor
    · rintro ⟨h1, h2⟩
      refine ⟨fun x hx => ?_, h2⟩
      rcases List.mem_cons.mp hx with rfl | q
      · exact h1
      · exact key_trans h1 ((List.pairwise_cons.mp h2).1 x q)
    · rintro ⟨h1, h2⟩
      exact ⟨h1 b List.mem_cons_self, h2⟩
theorem zip_eq (C : Nat → List D → M D) (ρ : Rho) (a b : Ex) : denIt C (.zip a b) ρ = (den C a ρ).bind fun x => (den C b ρ).bind fun y => .opt (match x, y with
      | .dat (.list xs), .dat (.list ys) => some ((xs.zip ys).map fun p => .dat (.tuple [p.1, p.2]))
      | _, _ => none) := rfl
theorem cut1 (xs : List PyData) : cutD xs (some 1) none = xs.drop 1 := by
  cases xs with
  | nil => rfl
  | cons a r =>
    unfold cutD
    have e1 : HT.sIx (a :: r).length 0 (some 1) = 1 := by
      unfold HT.sIx
      simp
    have e2 : HT.sIx (a :: r).length (a :: r).length none = (a :: r).length := by
      unfold HT.sIx
      simp
    rw [e1, e2]
    show (r.take ((a :: r).length - 1)) = r
    rw [List.take_of_length_le (by simp)]
def ascB (xs : List PyData) : Bool := (xs.zip (xs.drop 1)).all fun p => klt factK p.1 p.2
theorem do_ascend (k : Nat) (xs : List PyData) (x : D) (hi : ∀ h, itemsD h x = some (xs.map .dat)) (hG : ∀ d ∈ xs, isFact d) (hl : xs.length ≤ 100) : callN TT (k + 3) 27 [x] = M.ret (.dat (.bool (ascB xs))) := by
  rw [call_step (f := ⟨5, 1, b27⟩) rfl, run_at (n := 5) (p := 1) (by rfl)]
  unfold b27
  have e1 : den (callN TT (k + 2)) (.lc (.call 23 (.cons (.v 2) .nil)) (.mk [2] (.name 2) (.seq (.v 0)) .none)) [some x, none, none, none, none] = .ret (.dat (.list (xs.map factK))) := by
    refine lc_all (ds := xs) (g := factK) ?_ (fun d hd => ⟨_, rfl, law_fact_key k d (hG d hd)⟩) (by omega)
    rw [denIt_seq, den_v, List.getElem?_cons_zero, join_ss, M.opt_some, M.ret_bind, show (fun h => itemsD h x) = fun _ => some (xs.map .dat) from funext hi, M.rd_const]
  have e2 : den (callN TT (k + 2)) (.lc (.c (.int 1)) (.mk [3, 4] (.tup [3, 4]) (.zip (.v 1) (.sl (.v 1) (.some (.c (.int 1))) .none)) (.some (.not (.cmp .lt (.v 3) (.v 4)))))) [some x, some (.dat (.list (xs.map factK))), none, none, none]
      = .ret (.dat (.list ((((xs.zip (xs.drop 1)).map fun p => PyData.tuple [factK p.1, factK p.2]).filter fun q => match q with | .tuple [a, b] => !PySem.W.dataLt a b | _ => false).map fun _ => .int 1))) := by
    refine lc_pure (ds := (xs.zip (xs.drop 1)).map fun p => PyData.tuple [factK p.1, factK p.2]) (p := fun q => match q with | .tuple [a, b] => !PySem.W.dataLt a b | _ => false) (g := fun _ => .int 1) ?_ (fun d hd => ?_) ?_
    · have es : den (callN TT (k + 2)) (.sl (.v 1) (.some (.c (.int 1))) .none) [some x, some (.dat (.list (xs.map factK))), none, none, none] = .ret (.dat (.list ((xs.map factK).drop 1))) := by
        (simp only [at_0, at_1, sz0, sz1, sz2, sz3, sz4, sz5, sz6, sz7, sz8, den_neg, den_c, den_v, den_g, den_tup, den_lst, den_bin, den_neg, den_cmp, den_and, den_or, den_not, den_ite, den_ix, den_sl, den_call, den_bi, den_isi, den_get2, dens_nil, dens_cons, deno_none, deno_some, denc_none, denc_some, denIt_seq, denS_set, denS_par, denS_ret, denS_ex, denS_ite, denSs_nil, denSs_cons, rdD_dat, tru_b, tru_i, tru_l, add_i, sub_i, mul_i, fdiv_i, mod_i, add_t, add_l, cmp_eq, cmp_ne, cmp_lt, cmp_ge, cmp_gt, ix_l, ix_t, ix_m, sl_l, bi_tuple_l, bi_list_t, bi_list_l, bi_len_l, bi_len_t, bi_int_i, items_l, items_t, isi_tt, isi_it, isi_st, asInt_i, datAll_nil, datAll_cons, shaped_i, M.ret_bind, M.bind_assoc, M.opt_some, M.rd_const, quiet_ret, List.map_cons, List.map_nil, List.replicate, List.cons_append, List.nil_append, List.getElem?_cons_zero, List.getElem?_cons_succ, join_ss, Option.map_some, Option.bind_some, List.set_cons_zero, List.set_cons_succ, List.length_cons, List.length_nil, ↓reduceIte, Bool.false_eq_true, Bool.not_true, Bool.not_false, Bool.and_self])
        rw [cut1]
      rw [zip_eq, es]
      (simp only [at_0, at_1, sz0, sz1, sz2, sz3, sz4, sz5, sz6, sz7, sz8, den_neg, den_c, den_v, den_g, den_tup, den_lst, den_bin, den_neg, den_cmp, den_and, den_or, den_not, den_ite, den_ix, den_sl, den_call, den_bi, den_isi, den_get2, dens_nil, dens_cons, deno_none, deno_some, denc_none, denc_some, denIt_seq, denS_set, denS_par, denS_ret, denS_ex, denS_ite, denSs_nil, denSs_cons, rdD_dat, tru_b, tru_i, tru_l, add_i, sub_i, mul_i, fdiv_i, mod_i, add_t, add_l, cmp_eq, cmp_ne, cmp_lt, cmp_ge, cmp_gt, ix_l, ix_t, ix_m, sl_l, bi_tuple_l, bi_list_t, bi_list_l, bi_len_l, bi_len_t, bi_int_i, items_l, items_t, isi_tt, isi_it, isi_st, asInt_i, datAll_nil, datAll_cons, shaped_i, M.ret_bind, M.bind_assoc, M.opt_some, M.rd_const, quiet_ret, List.map_cons, List.map_nil, List.replicate, List.cons_append, List.nil_append, List.getElem?_cons_zero, List.getElem?_cons_succ, join_ss, Option.map_some, Option.bind_some, List.set_cons_zero, List.set_cons_succ, List.length_cons, List.length_nil, ↓reduceIte, Bool.false_eq_true, Bool.not_true, Bool.not_false, Bool.and_self])
      show M.opt (some (((xs.map factK).zip ((xs.map factK).drop 1)).map fun p => D.dat (.tuple [p.1, p.2]))) = _
      rw [M.opt_some, ← List.map_drop, List.zip_map, List.map_map, List.map_map]
      rfl
    · obtain ⟨p, hp, rfl⟩ := List.mem_map.mp hd
      have ha := hG p.1 (List.of_mem_zip hp).1
      have hb := hG p.2 (List.mem_of_mem_drop (List.of_mem_zip hp).2)
      refine ⟨_, rfl, ?_, fun _ => rfl⟩
      show denc (callN TT (k + 2)) (.some (.not (.cmp .lt (.v 3) (.v 4)))) [some x, some (.dat (.list (xs.map factK))), none, some (.dat (factK p.1)), some (.dat (factK p.2))] = _
      have hd' := goodF.dep p.1 ha
      (simp only [at_0, at_1, sz0, sz1, sz2, sz3, sz4, sz5, sz6, sz7, sz8, den_neg, den_c, den_v, den_g, den_tup, den_lst, den_bin, den_neg, den_cmp, den_and, den_or, den_not, den_ite, den_ix, den_sl, den_call, den_bi, den_isi, den_get2, dens_nil, dens_cons, deno_none, deno_some, denc_none, denc_some, denIt_seq, denS_set, denS_par, denS_ret, denS_ex, denS_ite, denSs_nil, denSs_cons, rdD_dat, tru_b, tru_i, tru_l, add_i, sub_i, mul_i, fdiv_i, mod_i, add_t, add_l, cmp_eq, cmp_ne, cmp_lt, cmp_ge, cmp_gt, ix_l, ix_t, ix_m, sl_l, bi_tuple_l, bi_list_t, bi_list_l, bi_len_l, bi_len_t, bi_int_i, items_l, items_t, isi_tt, isi_it, isi_st, asInt_i, datAll_nil, datAll_cons, shaped_i, M.ret_bind, M.bind_assoc, M.opt_some, M.rd_const, quiet_ret, List.map_cons, List.map_nil, List.replicate, List.cons_append, List.nil_append, List.getElem?_cons_zero, List.getElem?_cons_succ, join_ss, Option.map_some, Option.bind_some, List.set_cons_zero, List.set_cons_succ, List.length_cons, List.length_nil, ↓reduceIte, Bool.false_eq_true, Bool.not_true, Bool.not_false, Bool.and_self])
      simp only [goodF.alike p.1 p.2 ha hb, decide_eq_true hd'.1, hd'.2]
      (simp only [at_0, at_1, sz0, sz1, sz2, sz3, sz4, sz5, sz6, sz7, sz8, den_neg, den_c, den_v, den_g, den_tup, den_lst, den_bin, den_neg, den_cmp, den_and, den_or, den_not, den_ite, den_ix, den_sl, den_call, den_bi, den_isi, den_get2, dens_nil, dens_cons, deno_none, deno_some, denc_none, denc_some, denIt_seq, denS_set, denS_par, denS_ret, denS_ex, denS_ite, denSs_nil, denSs_cons, rdD_dat, tru_b, tru_i, tru_l, add_i, sub_i, mul_i, fdiv_i, mod_i, add_t, add_l, cmp_eq, cmp_ne, cmp_lt, cmp_ge, cmp_gt, ix_l, ix_t, ix_m, sl_l, bi_tuple_l, bi_list_t, bi_list_l, bi_len_l, bi_len_t, bi_int_i, items_l, items_t, isi_tt, isi_it, isi_st, asInt_i, datAll_nil, datAll_cons, shaped_i, M.ret_bind, M.bind_assoc, M.opt_some, M.rd_const, quiet_ret, List.map_cons, List.map_nil, List.replicate, List.cons_append, List.nil_append, List.getElem?_cons_zero, List.getElem?_cons_succ, join_ss, Option.map_some, Option.bind_some, List.set_cons_zero, List.set_cons_succ, List.length_cons, List.length_nil, ↓reduceIte, Bool.false_eq_true, Bool.not_true, Bool.not_false, Bool.and_self])
    · rw [List.length_map, List.length_zip]
      omega
  have e3 : ∀ ps : List (PyData × PyData), ((ps.map fun p => PyData.tuple [factK p.1, factK p.2]).filter fun q => match q with | .tuple [a, b] => !PySem.W.dataLt a b | _ => false).isEmpty = ps.all fun p => klt factK p.1 p.2 := by
    intro ps
    induction ps with
    | nil => rfl
    | cons p ps ih =>
      rw [List.map_cons, List.filter_cons, List.all_cons, ← ih]
      show (if (!PySem.W.dataLt (factK p.1) (factK p.2)) = true then _ else _ : List PyData).isEmpty = (PySem.W.dataLt (factK p.1) (factK p.2) && _)
      cases PySem.W.dataLt (factK p.1) (factK p.2) <;> rfl
  (simp only [at_0, at_1, sz0, sz1, sz2, sz3, sz4, sz5, sz6, sz7, sz8, den_neg, den_c, den_v, den_g, den_tup, den_lst, den_bin, den_neg, den_cmp, den_and, den_or, den_not, den_ite, den_ix, den_sl, den_call, den_bi, den_isi, den_get2, dens_nil, dens_cons, deno_none, deno_some, denc_none, denc_some, denIt_seq, denS_set, denS_par, denS_ret, denS_ex, denS_ite, denSs_nil, denSs_cons, rdD_dat, tru_b, tru_i, tru_l, add_i, sub_i, mul_i, fdiv_i, mod_i, add_t, add_l, cmp_eq, cmp_ne, cmp_lt, cmp_ge, cmp_gt, ix_l, ix_t, ix_m, sl_l, bi_tuple_l, bi_list_t, bi_list_l, bi_len_l, bi_len_t, bi_int_i, items_l, items_t, isi_tt, isi_it, isi_st, asInt_i, datAll_nil, datAll_cons, shaped_i, M.ret_bind, M.bind_assoc, M.opt_some, M.rd_const, quiet_ret, List.map_cons, List.map_nil, List.replicate, List.cons_append, List.nil_append, List.getElem?_cons_zero, List.getElem?_cons_succ, join_ss, Option.map_some, Option.bind_some, List.set_cons_zero, List.set_cons_succ, List.length_cons, List.length_nil, ↓reduceIte, Bool.false_eq_true, Bool.not_true, Bool.not_false, Bool.and_self])
  rw [e1]
  (simp only [at_0, at_1, sz0, sz1, sz2, sz3, sz4, sz5, sz6, sz7, sz8, den_neg, den_c, den_v, den_g, den_tup, den_lst, den_bin, den_neg, den_cmp, den_and, den_or, den_not, den_ite, den_ix, den_sl, den_call, den_bi, den_isi, den_get2, dens_nil, dens_cons, deno_none, deno_some, denc_none, denc_some, denIt_seq, denS_set, denS_par, denS_ret, denS_ex, denS_ite, denSs_nil, denSs_cons, rdD_dat, tru_b, tru_i, tru_l, add_i, sub_i, mul_i, fdiv_i, mod_i, add_t, add_l, cmp_eq, cmp_ne, cmp_lt, cmp_ge, cmp_gt, ix_l, ix_t, ix_m, sl_l, bi_tuple_l, bi_list_t, bi_list_l, bi_len_l, bi_len_t, bi_int_i, items_l, items_t, isi_tt, isi_it, isi_st, asInt_i, datAll_nil, datAll_cons, shaped_i, M.ret_bind, M.bind_assoc, M.opt_some, M.rd_const, quiet_ret, List.map_cons, List.map_nil, List.replicate, List.cons_append, List.nil_append, List.getElem?_cons_zero, List.getElem?_cons_succ, join_ss, Option.map_some, Option.bind_some, List.set_cons_zero, List.set_cons_succ, List.length_cons, List.length_nil, ↓reduceIte, Bool.false_eq_true, Bool.not_true, Bool.not_false, Bool.and_self])
  rw [e2]
  have hlen : (((xs.zip (xs.drop 1)).map fun p => PyData.tuple [factK p.1, factK p.2]).filter fun q => match q with | .tuple [a, b] => !PySem.W.dataLt a b | _ => false).length ≤ 100 := by
    refine Nat.le_trans (List.length_filter_le _ _) ?_
    rw [List.length_map, List.length_zip]
    omega
  have hq := e3 (xs.zip (xs.drop 1))
  generalize ((xs.zip (xs.drop 1)).map fun p => PyData.tuple [factK p.1, factK p.2]).filter (fun q => match q with | .tuple [a, b] => !PySem.W.dataLt a b | _ => false) = qs at hlen hq
  have i1 : Ok 0 5 (.int 1) := ok_of (by decide +kernel)
  have k1 : eqOk (.list (qs.map fun _ => .int 1)) (.list []) = true := eqOk_of (Ok.list (n := 0) (w := 5) fun y hy => by
    obtain ⟨_, _, rfl⟩ := List.mem_map.mp hy
    exact i1) (Ok.list (n := 0) (w := 0) (xs := []) fun _ z => by cases z) (by decide) (by decide)
  have k2 : PyData.eqv (.list (qs.map fun _ => .int 1)) (.list []) = ascB xs := by
    rw [eqv_nil]
    show _ = (xs.zip (xs.drop 1)).all fun p => klt factK p.1 p.2
    rw [← hq]
    cases qs <;> rfl
  (simp only [at_0, at_1, sz0, sz1, sz2, sz3, sz4, sz5, sz6, sz7, sz8, den_neg, den_c, den_v, den_g, den_tup, den_lst, den_bin, den_neg, den_cmp, den_and, den_or, den_not, den_ite, den_ix, den_sl, den_call, den_bi, den_isi, den_get2, dens_nil, dens_cons, deno_none, deno_some, denc_none, denc_some, denIt_seq, denS_set, denS_par, denS_ret, denS_ex, denS_ite, denSs_nil, denSs_cons, rdD_dat, tru_b, tru_i, tru_l, add_i, sub_i, mul_i, fdiv_i, mod_i, add_t, add_l, cmp_eq, cmp_ne, cmp_lt, cmp_ge, cmp_gt, ix_l, ix_t, ix_m, sl_l, bi_tuple_l, bi_list_t, bi_list_l, bi_len_l, bi_len_t, bi_int_i, items_l, items_t, isi_tt, isi_it, isi_st, asInt_i, datAll_nil, datAll_cons, shaped_i, M.ret_bind, M.bind_assoc, M.opt_some, M.rd_const, quiet_ret, List.map_cons, List.map_nil, List.replicate, List.cons_append, List.nil_append, List.getElem?_cons_zero, List.getElem?_cons_succ, join_ss, Option.map_some, Option.bind_some, List.set_cons_zero, List.set_cons_succ, List.length_cons, List.length_nil, ↓reduceIte, Bool.false_eq_true, Bool.not_true, Bool.not_false, Bool.and_self])
  simp only [k1, k2]
  (simp only [at_0, at_1, sz0, sz1, sz2, sz3, sz4, sz5, sz6, sz7, sz8, den_neg, den_c, den_v, den_g, den_tup, den_lst, den_bin, den_neg, den_cmp, den_and, den_or, den_not, den_ite, den_ix, den_sl, den_call, den_bi, den_isi, den_get2, dens_nil, dens_cons, deno_none, deno_some, denc_none, denc_some, denIt_seq, denS_set, denS_par, denS_ret, denS_ex, denS_ite, denSs_nil, denSs_cons, rdD_dat, tru_b, tru_i, tru_l, add_i, sub_i, mul_i, fdiv_i, mod_i, add_t, add_l, cmp_eq, cmp_ne, cmp_lt, cmp_ge, cmp_gt, ix_l, ix_t, ix_m, sl_l, bi_tuple_l, bi_list_t, bi_list_l, bi_len_l, bi_len_t, bi_int_i, items_l, items_t, isi_tt, isi_it, isi_st, asInt_i, datAll_nil, datAll_cons, shaped_i, M.ret_bind, M.bind_assoc, M.opt_some, M.rd_const, quiet_ret, List.map_cons, List.map_nil, List.replicate, List.cons_append, List.nil_append, List.getElem?_cons_zero, List.getElem?_cons_succ, join_ss, Option.map_some, Option.bind_some, List.set_cons_zero, List.set_cons_succ, List.length_cons, List.length_nil, ↓reduceIte, Bool.false_eq_true, Bool.not_true, Bool.not_false, Bool.and_self])
theorem ascB_iff (xs : List PyData) : ascB xs = true ↔ xs.Pairwise fun a b => klt factK a b = true := by
  rw [← pair_adj]
  unfold ascB
  rw [List.all_eq_true]
end K01
end
section
set_option Elab.async false
set_option linter.all false
set_option maxRecDepth 100000
/-! The law k01, plain: terms put in. -/
namespace K01
open PySem DL
def subT (kvs : List (PyData × PyData)) (t : PyData) : PyData := if isVarD t = true then (dgetD kvs (varN t)).getD t else t
def subF (kvs : List (PyData × PyData)) : PyData → PyData
  | .tuple [s, .tuple ts] => .tuple [s, .tuple (ts.map (subT kvs))]
  | d => d
theorem get_mem {kvs : List (PyData × PyData)} {k v : PyData} (h : dgetD kvs k = some v) : ∃ p ∈ kvs, p.2 = v := by
  unfold dgetD at h
  obtain ⟨p, hp, rfl⟩ := Option.map_eq_some_iff.mp h
  exact ⟨p, List.mem_of_find?_eq_some hp, rfl⟩
theorem subT_term {kvs : List (PyData × PyData)} (hk : ∀ p ∈ kvs, p.2 ∈ termsL) {t : PyData} (ht : t ∈ termsL) : subT kvs t ∈ termsL := by
  unfold subT
  split
  · cases q : dgetD kvs (varN t) with
    | none => exact ht
    | some v =>
      obtain ⟨p, hp, rfl⟩ := get_mem q
      exact hk p hp
  · exact ht
theorem subF_fact {kvs : List (PyData × PyData)} (hk : ∀ p ∈ kvs, p.2 ∈ termsL) {d : PyData} (h : isFact d) : isFact (subF kvs d) := by
  obtain ⟨s, ts, rfl, hs, ht, hl⟩ := h
  refine ⟨s, ts.map (subT kvs), rfl, hs, fun t q => ?_, by rw [List.length_map]; exact hl⟩
  obtain ⟨u, hu, rfl⟩ := List.mem_map.mp q
  exact subT_term hk (ht u hu)
/-- what is got of told -/
theorem get_term {C : Nat → List D → M D} {ρ : Rho} {i j : Nat} {kvs : List (PyData × PyData)} {t : PyData} (hd : ρ[i]? = some (some (.dic kvs))) (ht : ρ[j]? = some (some (.dat t))) (hm : t ∈ termsL) (hv : isVarD t = true) :
    den C (.get2 (.v i) (.ix (.v j) (.c (.int 1))) (.v j)) ρ = .ret (.dat (subT kvs t)) := by
  obtain ⟨s, hs, rfl⟩ := var_is hm hv
  rw [den_get2, den_v, hd, den_ix, den_v, ht]
  show (if keyOk8 (.str s) = true then (match dgetD kvs (.str s) with | some v => M.ret (D.dat v) | none => M.ret (D.dat (.tuple [.str "var", .str s]))) else M.no) = _
  rw [if_pos (name_ok s hs).2]
  unfold subT
  rw [if_pos hv]
  show _ = M.ret (D.dat ((dgetD kvs (.str s)).getD _))
  cases dgetD kvs (.str s) <;> rfl
theorem isi_var : ∀ t ∈ termsL, opIsi .tuple (.dat t) = some (isVarD t) := by
  simp only [termsL, valsL, varsL, nm8, List.map_cons, List.map_nil, List.cons_append, List.nil_append, List.forall_mem_cons]
  exact ⟨rfl, rfl, rfl, rfl, rfl, rfl, rfl, rfl, rfl, rfl, rfl, rfl, rfl, rfl, rfl, rfl, rfl, rfl, rfl, rfl, rfl, fun _ h => nomatch h⟩
theorem law_put (k : Nat) (xs : List PyData) (x : D) (kvs : List (PyData × PyData)) (hk : ∀ p ∈ kvs, p.2 ∈ termsL) (hi : ∀ h, itemsD h x = some (xs.map .dat)) (hG : ∀ d ∈ xs, isFact d) (hl : xs.length ≤ 100) : callN TT (k + 1) 30 [x, .dic kvs] = M.ret (.dat (.list (xs.map (subF kvs)))) := by
  rw [call_step (f := ⟨5, 2, b30⟩) rfl, run_at (n := 5) (p := 2) (by rfl)]
  unfold b30
  have e1 : den (callN TT k) (.lc (.tup (.cons (.v 3) (.cons (.bi .tuple (.cons (.lc (.ite (.isi (.v 2) .tuple) (.get2 (.v 1) (.ix (.v 2) (.c (.int 1))) (.v 2)) (.v 2)) (.mk [2] (.name 2) (.seq (.v 4)) .none)) .nil)) .nil))) (.mk [3, 4] (.tup [3, 4]) (.seq (.v 0)) .none)) [some x, some (.dic kvs), none, none, none] = .ret (.dat (.list (xs.map (subF kvs)))) := by
    refine lc_all (ds := xs) (g := subF kvs) ?_ (fun d hd => ?_) (by omega)
    · rw [denIt_seq, den_v, List.getElem?_cons_zero, join_ss, M.opt_some, M.ret_bind, show (fun h => itemsD h x) = fun _ => some (xs.map .dat) from funext hi, M.rd_const]
    · obtain ⟨s, ts, rfl, hs, ht, htl⟩ := hG d hd
      refine ⟨_, rfl, ?_⟩
      show den (callN TT k) (.tup (.cons (.v 3) (.cons (.bi .tuple (.cons (.lc (.ite (.isi (.v 2) .tuple) (.get2 (.v 1) (.ix (.v 2) (.c (.int 1))) (.v 2)) (.v 2)) (.mk [2] (.name 2) (.seq (.v 4)) .none)) .nil)) .nil))) [some x, some (.dic kvs), none, some (.dat (.str s)), some (.dat (.tuple ts))] = _
      have e2 : den (callN TT k) (.lc (.ite (.isi (.v 2) .tuple) (.get2 (.v 1) (.ix (.v 2) (.c (.int 1))) (.v 2)) (.v 2)) (.mk [2] (.name 2) (.seq (.v 4)) .none)) [some x, some (.dic kvs), none, some (.dat (.str s)), some (.dat (.tuple ts))] = .ret (.dat (.list (ts.map (subT kvs)))) := by
        refine lc_all (ds := ts) (g := subT kvs) rfl (fun t q => ⟨_, rfl, ?_⟩) (by omega)
        show den (callN TT k) (.ite (.isi (.v 2) .tuple) (.get2 (.v 1) (.ix (.v 2) (.c (.int 1))) (.v 2)) (.v 2)) [some x, some (.dic kvs), some (.dat t), some (.dat (.str s)), some (.dat (.tuple ts))] = _
        have hm := ht t q
        have hi := isi_var t hm
        have hget := fun hv => get_term (C := callN TT k) (ρ := [some x, some (.dic kvs), some (.dat t), some (.dat (.str s)), some (.dat (.tuple ts))]) (i := 1) (j := 2) (kvs := kvs) (t := t) rfl rfl hm hv
        rw [den_ite, den_isi, den_v, List.getElem?_cons_succ, List.getElem?_cons_succ, List.getElem?_cons_zero, join_ss, M.opt_some, M.ret_bind, hi, Option.map_some, M.opt_some, M.ret_bind]
        cases hv : isVarD t with
        | true =>
          show (M.rd fun _ => some true).bind _ = _
          rw [M.rd_const, M.ret_bind, if_pos rfl, hget hv]
        | false =>
          show (M.rd fun _ => some false).bind _ = _
          rw [M.rd_const, M.ret_bind, if_neg Bool.false_ne_true]
          unfold subT
          rw [hv, if_neg Bool.false_ne_true]
      (simp only [at_0, at_1, sz0, sz1, sz2, sz3, sz4, sz5, sz6, sz7, sz8, den_neg, den_c, den_v, den_g, den_tup, den_lst, den_bin, den_neg, den_cmp, den_and, den_or, den_not, den_ite, den_ix, den_sl, den_call, den_bi, den_isi, den_get2, dens_nil, dens_cons, deno_none, deno_some, denc_none, denc_some, denIt_seq, denS_set, denS_par, denS_ret, denS_ex, denS_ite, denSs_nil, denSs_cons, rdD_dat, tru_b, tru_i, tru_l, add_i, sub_i, mul_i, fdiv_i, mod_i, add_t, add_l, cmp_eq, cmp_ne, cmp_lt, cmp_ge, cmp_gt, ix_l, ix_t, ix_m, sl_l, bi_tuple_l, bi_list_t, bi_list_l, bi_len_l, bi_len_t, bi_int_i, items_l, items_t, isi_tt, isi_it, isi_st, asInt_i, datAll_nil, datAll_cons, shaped_i, M.ret_bind, M.bind_assoc, M.opt_some, M.rd_const, quiet_ret, List.map_cons, List.map_nil, List.replicate, List.cons_append, List.nil_append, List.getElem?_cons_zero, List.getElem?_cons_succ, join_ss, Option.map_some, Option.bind_some, List.set_cons_zero, List.set_cons_succ, List.length_cons, List.length_nil, ↓reduceIte, Bool.false_eq_true, Bool.not_true, Bool.not_false, Bool.and_self])
      rw [e2]
      (simp only [at_0, at_1, sz0, sz1, sz2, sz3, sz4, sz5, sz6, sz7, sz8, den_neg, den_c, den_v, den_g, den_tup, den_lst, den_bin, den_neg, den_cmp, den_and, den_or, den_not, den_ite, den_ix, den_sl, den_call, den_bi, den_isi, den_get2, dens_nil, dens_cons, deno_none, deno_some, denc_none, denc_some, denIt_seq, denS_set, denS_par, denS_ret, denS_ex, denS_ite, denSs_nil, denSs_cons, rdD_dat, tru_b, tru_i, tru_l, add_i, sub_i, mul_i, fdiv_i, mod_i, add_t, add_l, cmp_eq, cmp_ne, cmp_lt, cmp_ge, cmp_gt, ix_l, ix_t, ix_m, sl_l, bi_tuple_l, bi_list_t, bi_list_l, bi_len_l, bi_len_t, bi_int_i, items_l, items_t, isi_tt, isi_it, isi_st, asInt_i, datAll_nil, datAll_cons, shaped_i, M.ret_bind, M.bind_assoc, M.opt_some, M.rd_const, quiet_ret, List.map_cons, List.map_nil, List.replicate, List.cons_append, List.nil_append, List.getElem?_cons_zero, List.getElem?_cons_succ, join_ss, Option.map_some, Option.bind_some, List.set_cons_zero, List.set_cons_succ, List.length_cons, List.length_nil, ↓reduceIte, Bool.false_eq_true, Bool.not_true, Bool.not_false, Bool.and_self])
      rfl
  (simp only [at_0, at_1, sz0, sz1, sz2, sz3, sz4, sz5, sz6, sz7, sz8, den_neg, den_c, den_v, den_g, den_tup, den_lst, den_bin, den_neg, den_cmp, den_and, den_or, den_not, den_ite, den_ix, den_sl, den_call, den_bi, den_isi, den_get2, dens_nil, dens_cons, deno_none, deno_some, denc_none, denc_some, denIt_seq, denS_set, denS_par, denS_ret, denS_ex, denS_ite, denSs_nil, denSs_cons, rdD_dat, tru_b, tru_i, tru_l, add_i, sub_i, mul_i, fdiv_i, mod_i, add_t, add_l, cmp_eq, cmp_ne, cmp_lt, cmp_ge, cmp_gt, ix_l, ix_t, ix_m, sl_l, bi_tuple_l, bi_list_t, bi_list_l, bi_len_l, bi_len_t, bi_int_i, items_l, items_t, isi_tt, isi_it, isi_st, asInt_i, datAll_nil, datAll_cons, shaped_i, M.ret_bind, M.bind_assoc, M.opt_some, M.rd_const, quiet_ret, List.map_cons, List.map_nil, List.replicate, List.cons_append, List.nil_append, List.getElem?_cons_zero, List.getElem?_cons_succ, join_ss, Option.map_some, Option.bind_some, List.set_cons_zero, List.set_cons_succ, List.length_cons, List.length_nil, ↓reduceIte, Bool.false_eq_true, Bool.not_true, Bool.not_false, Bool.and_self])
  rw [e1]
  (simp only [at_0, at_1, sz0, sz1, sz2, sz3, sz4, sz5, sz6, sz7, sz8, den_neg, den_c, den_v, den_g, den_tup, den_lst, den_bin, den_neg, den_cmp, den_and, den_or, den_not, den_ite, den_ix, den_sl, den_call, den_bi, den_isi, den_get2, dens_nil, dens_cons, deno_none, deno_some, denc_none, denc_some, denIt_seq, denS_set, denS_par, denS_ret, denS_ex, denS_ite, denSs_nil, denSs_cons, rdD_dat, tru_b, tru_i, tru_l, add_i, sub_i, mul_i, fdiv_i, mod_i, add_t, add_l, cmp_eq, cmp_ne, cmp_lt, cmp_ge, cmp_gt, ix_l, ix_t, ix_m, sl_l, bi_tuple_l, bi_list_t, bi_list_l, bi_len_l, bi_len_t, bi_int_i, items_l, items_t, isi_tt, isi_it, isi_st, asInt_i, datAll_nil, datAll_cons, shaped_i, M.ret_bind, M.bind_assoc, M.opt_some, M.rd_const, quiet_ret, List.map_cons, List.map_nil, List.replicate, List.cons_append, List.nil_append, List.getElem?_cons_zero, List.getElem?_cons_succ, join_ss, Option.map_some, Option.bind_some, List.set_cons_zero, List.set_cons_succ, List.length_cons, List.length_nil, ↓reduceIte, Bool.false_eq_true, Bool.not_true, Bool.not_false, Bool.and_self])
theorem app_pure {C : Nat → List D → M D} {ρ : Rho} {h : Store} {acc : List PyData} {i : Nat} {e : Ex} {d : PyData} (hi : ρ[i]? = some (some (.mut h.length))) (he : den C e ρ = .ret (.dat d)) (hl : acc.length ≤ 1000) : den C (.app (.v i) e) ρ (stG h acc) = .ok (.dat .none) (stG h (acc ++ [d])) := by
  show ((M.opt (ρ[i]?.join)).bind fun x => (M.rd fun h => asMut h x).bind fun l => (den C e ρ).bind fun y => fun h => match lstAt h l with
      | some ds => if ds.length < 16777216 then Res.ok (D.dat .none) (h.set l (some (ds ++ [y]))) else .no
      | none => .no) (stG h acc) = _
  rw [hi, join_ss, M.opt_some, M.ret_bind, he]
  refine (M.at_bind (a := h.length) (h' := stG h acc) (M.rd_at (by show (lstAt (stG h acc) h.length).map _ = _; rw [stG_at]; rfl))).trans ?_
  rw [M.ret_bind]
  show (match lstAt (stG h acc) h.length with
      | some ds => if ds.length < 16777216 then Res.ok (D.dat .none) ((stG h acc).set h.length (some (ds ++ [D.dat d]))) else .no
      | none => .no) = _
  rw [stG_at]
  show (if (acc.map D.dat).length < 16777216 then Res.ok (D.dat .none) ((stG h acc).set h.length (some (acc.map .dat ++ [D.dat d]))) else .no) = _
  rw [if_pos (by rw [List.length_map]; omega), stG_set, stG, List.map_append]; rfl
theorem put_in (k : Nat) (xs : List PyData) (x : D) (kvs : List (PyData × PyData)) (hk : ∀ p ∈ kvs, p.2 ∈ termsL) (hi : ∀ h, itemsD h x = some (xs.map .dat)) (hG : ∀ d ∈ xs, isFact d) (hl : xs.length ≤ 100) (h : Store) : callN TT (k + 6) 12 [x, .dic kvs] h = .ok (.dat (.tuple (ascL factK (xs.map (subF kvs))))) (h ++ [none]) := by
  rw [call_step (f := ⟨6, 2, b12⟩) rfl, run_at (n := 6) (p := 2) (by rfl)]
  have one : ∀ (x5 : Option D) (s : Str) (ts : List PyData), (∀ t ∈ ts, t ∈ termsL) → ts.length ≤ 3 → den (callN TT (k + 5)) (.tup (.cons (.v 3) (.cons (.bi .tuple (.cons (.lc (.ite (.call 3 (.cons (.v 5) .nil)) (.get2 (.v 1) (.ix (.v 5) (.c (.int 1))) (.v 5)) (.v 5)) (.mk [5] (.name 5) (.seq (.v 4)) .none)) .nil)) .nil))) [some x, some (.dic kvs), some (.mut h.length), some (.dat (.str s)), some (.dat (.tuple ts)), x5] = .ret (.dat (.tuple [.str s, .tuple (ts.map (subT kvs))])) := by
    intro x5 s ts ht htl
    have e2 : den (callN TT (k + 5)) (.lc (.ite (.call 3 (.cons (.v 5) .nil)) (.get2 (.v 1) (.ix (.v 5) (.c (.int 1))) (.v 5)) (.v 5)) (.mk [5] (.name 5) (.seq (.v 4)) .none)) [some x, some (.dic kvs), some (.mut h.length), some (.dat (.str s)), some (.dat (.tuple ts)), x5] = .ret (.dat (.list (ts.map (subT kvs)))) := by
      refine lc_all (ds := ts) (g := subT kvs) rfl (fun t q => ⟨_, rfl, ?_⟩) (by omega)
      show den (callN TT (k + 5)) (.ite (.call 3 (.cons (.v 5) .nil)) (.get2 (.v 1) (.ix (.v 5) (.c (.int 1))) (.v 5)) (.v 5)) [some x, some (.dic kvs), some (.mut h.length), some (.dat (.str s)), some (.dat (.tuple ts)), some (.dat t)] = _
      have hm := ht t q
      have hget := fun hv => get_term (C := callN TT (k + 5)) (ρ := [some x, some (.dic kvs), some (.mut h.length), some (.dat (.str s)), some (.dat (.tuple ts)), some (.dat t)]) (i := 1) (j := 5) (kvs := kvs) (t := t) rfl rfl hm hv
      rw [den_ite, den_call, dens_cons, dens_nil, den_v]
      show ((callN TT (k + 5) 3 [D.dat t]).bind _) = _
      rw [is_var (k + 3) t hm, M.ret_bind]
      cases hv : isVarD t with
      | true =>
        show (M.rd fun _ => some true).bind _ = _
        rw [M.rd_const, M.ret_bind, if_pos rfl, hget hv]
      | false =>
        show (M.rd fun _ => some false).bind _ = _
        rw [M.rd_const, M.ret_bind, if_neg Bool.false_ne_true]
        unfold subT
        rw [hv, if_neg Bool.false_ne_true]
        rfl
    (simp only [at_0, at_1, sz0, sz1, sz2, sz3, sz4, sz5, sz6, sz7, sz8, den_neg, den_c, den_v, den_g, den_tup, den_lst, den_bin, den_neg, den_cmp, den_and, den_or, den_not, den_ite, den_ix, den_sl, den_call, den_bi, den_isi, den_get2, dens_nil, dens_cons, deno_none, deno_some, denc_none, denc_some, denIt_seq, denS_set, denS_par, denS_ret, denS_ex, denS_ite, denSs_nil, denSs_cons, rdD_dat, tru_b, tru_i, tru_l, add_i, sub_i, mul_i, fdiv_i, mod_i, add_t, add_l, cmp_eq, cmp_ne, cmp_lt, cmp_ge, cmp_gt, ix_l, ix_t, ix_m, sl_l, bi_tuple_l, bi_list_t, bi_list_l, bi_len_l, bi_len_t, bi_int_i, items_l, items_t, isi_tt, isi_it, isi_st, asInt_i, datAll_nil, datAll_cons, shaped_i, M.ret_bind, M.bind_assoc, M.opt_some, M.rd_const, quiet_ret, List.map_cons, List.map_nil, List.replicate, List.cons_append, List.nil_append, List.getElem?_cons_zero, List.getElem?_cons_succ, join_ss, Option.map_some, Option.bind_some, List.set_cons_zero, List.set_cons_succ, List.length_cons, List.length_nil, ↓reduceIte, Bool.false_eq_true, Bool.not_true, Bool.not_false, Bool.and_self])
    rw [e2]
    (simp only [at_0, at_1, sz0, sz1, sz2, sz3, sz4, sz5, sz6, sz7, sz8, den_neg, den_c, den_v, den_g, den_tup, den_lst, den_bin, den_neg, den_cmp, den_and, den_or, den_not, den_ite, den_ix, den_sl, den_call, den_bi, den_isi, den_get2, dens_nil, dens_cons, deno_none, deno_some, denc_none, denc_some, denIt_seq, denS_set, denS_par, denS_ret, denS_ex, denS_ite, denSs_nil, denSs_cons, rdD_dat, tru_b, tru_i, tru_l, add_i, sub_i, mul_i, fdiv_i, mod_i, add_t, add_l, cmp_eq, cmp_ne, cmp_lt, cmp_ge, cmp_gt, ix_l, ix_t, ix_m, sl_l, bi_tuple_l, bi_list_t, bi_list_l, bi_len_l, bi_len_t, bi_int_i, items_l, items_t, isi_tt, isi_it, isi_st, asInt_i, datAll_nil, datAll_cons, shaped_i, M.ret_bind, M.bind_assoc, M.opt_some, M.rd_const, quiet_ret, List.map_cons, List.map_nil, List.replicate, List.cons_append, List.nil_append, List.getElem?_cons_zero, List.getElem?_cons_succ, join_ss, Option.map_some, Option.bind_some, List.set_cons_zero, List.set_cons_succ, List.length_cons, List.length_nil, ↓reduceIte, Bool.false_eq_true, Bool.not_true, Bool.not_false, Bool.and_self])
  have loop : ∀ (zs acc : List PyData) (x3 x4 : Option D), (∀ d ∈ zs, isFact d) → acc.length + zs.length ≤ 1000 → ∃ x3' x4', loopS (fun y ρ => (M.opt (assignT (.tup [3, 4]) ρ y)).bind fun ρ' => denSs (callN TT (k + 5)) (.cons (.ex (.app (.v 2) (.tup (.cons (.v 3) (.cons (.bi .tuple (.cons (.lc (.ite (.call 3 (.cons (.v 5) .nil)) (.get2 (.v 1) (.ix (.v 5) (.c (.int 1))) (.v 5)) (.v 5)) (.mk [5] (.name 5) (.seq (.v 4)) .none)) .nil)) .nil))))) .nil) ρ') (zs.map .dat) [some x, some (.dic kvs), some (.mut h.length), x3, x4, none] (stG h acc)
      = .ok (.nx [some x, some (.dic kvs), some (.mut h.length), x3', x4', none]) (stG h (acc ++ zs.map (subF kvs))) := by
    intro zs
    induction zs with
    | nil => exact fun acc x3 x4 _ _ => ⟨x3, x4, by rw [List.map_nil, List.map_nil, List.append_nil]; rfl⟩
    | cons z zs ih =>
      intro acc x3 x4 h1 hl
      rw [List.length_cons] at hl
      obtain ⟨s, ts, rfl, hs, ht, htl⟩ := h1 z List.mem_cons_self
      obtain ⟨x3', x4', e⟩ := ih (acc ++ [subF kvs (.tuple [.str s, .tuple ts])]) (some (.dat (.str s))) (some (.dat (.tuple ts))) (fun d hd => h1 d (List.mem_cons_of_mem _ hd)) (by rw [List.length_append]; simp; omega)
      refine ⟨x3', x4', ?_⟩
      rw [List.map_cons, List.map_cons]
      rw [List.append_assoc] at e
      refine (M.at_bind (a := Oc.nx [some x, some (.dic kvs), some (.mut h.length), some (.dat (.str s)), some (.dat (.tuple ts)), none]) (h' := stG h (acc ++ [subF kvs (.tuple [.str s, .tuple ts])])) ?_).trans e
      show ((M.opt (some [some x, some (.dic kvs), some (.mut h.length), some (.dat (.str s)), some (.dat (.tuple ts)), none])).bind fun ρ' => denSs _ _ ρ') (stG h acc) = _
      rw [M.opt_some, M.ret_bind, denSs_cons, denS_ex]
      exact (M.at_bind (a := Oc.nx [some x, some (.dic kvs), some (.mut h.length), some (.dat (.str s)), some (.dat (.tuple ts)), none]) (h' := stG h (acc ++ [subF kvs (.tuple [.str s, .tuple ts])])) ((M.at_bind (app_pure rfl (one none s ts ht htl) (by omega))).trans rfl)).trans rfl
  obtain ⟨x3, x4, el⟩ := loop xs [] none none hG (by simp; omega)
  rw [List.nil_append] at el
  unfold b12
  rw [denSs_cons, denS_set]
  have en : den (callN TT (k + 5)) (Ex.new .nil) ([x, D.dic kvs].map some ++ List.replicate (6 - 2) none) h = .ok (.mut h.length) (stG h []) := rfl
  refine (M.at_bind (a := Oc.rt (D.dat (.tuple (ascL factK (xs.map (subF kvs)))))) (h' := h ++ [none]) ?_)
  refine (M.at_bind (a := Oc.nx [some x, some (.dic kvs), some (.mut h.length), none, none, none]) (h' := stG h []) ((M.at_bind en).trans rfl)).trans ?_
  dsimp only
  rw [denSs_cons]
  have es : denIt (callN TT (k + 5)) (.seq (.v 0)) [some x, some (.dic kvs), some (.mut h.length), none, none, none] (stG h []) = .ok (xs.map .dat) (stG h []) := by
    rw [denIt_seq, den_v, List.getElem?_cons_zero, join_ss, M.opt_some, M.ret_bind]
    exact M.rd_at (hi _)
  refine (M.at_bind (a := Oc.nx [some x, some (.dic kvs), some (.mut h.length), x3, x4, none]) (h' := stG h (xs.map (subF kvs))) ((M.at_bind es).trans el)).trans ?_
  dsimp only
  rw [denSs_cons, denS_ret]
  have ef : den (callN TT (k + 5)) (.frz 2) [some x, some (.dic kvs), some (.mut h.length), x3, x4, none] (stG h (xs.map (subF kvs))) = Res.ok (D.dat (.list (xs.map (subF kvs)))) (h ++ [none]) := by
    show (match (lstAt (stG h (xs.map (subF kvs))) h.length).bind datAll with
        | some xs' => Res.ok (D.dat (.list xs')) ((stG h (xs.map (subF kvs))).set h.length none)
        | none => .no) = _
    rw [stG_at, Option.bind_some, datAll_map]
    show Res.ok _ ((stG h (xs.map (subF kvs))).set h.length none) = _
    rw [List.set_append_right _ _ (Nat.le_refl _), Nat.sub_self]; rfl
  have ec : den (callN TT (k + 5)) (.call 7 (.cons (.frz 2) .nil)) [some x, some (.dic kvs), some (.mut h.length), x3, x4, none] (stG h (xs.map (subF kvs))) = Res.ok (D.dat (.tuple (ascL factK (xs.map (subF kvs))))) (h ++ [none]) := by
    rw [den_call, dens_cons, dens_nil]
    refine (M.at_bind (a := [D.dat (.list (xs.map (subF kvs)))]) (h' := h ++ [none]) ((M.at_bind ef).trans rfl)).trans ?_
    rw [asc_facts k (.dat (.list (xs.map (subF kvs)))) (xs.map (subF kvs)) (fun h => rfl) (fun d hd => by
      obtain ⟨f, hf, rfl⟩ := List.mem_map.mp hd
      exact subF_fact hk (hG f hf)) (by rw [List.length_map]; omega)]
    rfl
  exact (M.at_bind (a := Oc.rt (D.dat (.tuple (ascL factK (xs.map (subF kvs)))))) (h' := h ++ [none]) ((M.at_bind ec).trans rfl)).trans rfl
end K01
end
section
set_option Elab.async false
set_option linter.all false
set_option maxRecDepth 100000
/-! The law k01, plain: the bag, the turn's first statements. -/
namespace K01
open PySem DL
variable {l : Nat}
theorem ab_nonneg (i : Int) : 0 ≤ (if i < 0 then -i else i) := by split <;> omega
theorem law_bag (k : Nat) (ns : List Int) (hl : ns.length ≤ 63) : ∃ h, callN TT (k + 1) 13 [.ro (ns.map .int)] [] = .ok (.mut 0) h ∧ Bag 0 h := by
  rw [call_step (f := ⟨2, 1, b13⟩) rfl, run_at (n := 2) (p := 1) (by rfl)]
  have hsub : ∀ x ∈ cutD (ns.map PyData.int) none (some 63), ∃ i : Int, x = .int i := fun x hx => by
    obtain ⟨i, _, rfl⟩ := List.mem_map.mp (List.mem_of_mem_drop (List.mem_of_mem_take hx))
    exact ⟨i, rfl⟩
  have hlen : (cutD (ns.map PyData.int) none (some 63)).length ≤ 1000 := by
    unfold cutD
    rw [List.length_take, List.length_drop, List.length_map]
    omega
  let ab : PyData → PyData := fun d => match d with | .int i => .int (if i < 0 then -i else i) | d => d
  have e1 : den (callN TT k) (.lc (.bi .abs (.cons (.v 1) .nil)) (.mk [1] (.name 1) (.seq (.sl (.v 0) .none (.some (.c (.int 63))))) .none)) [some (.ro (ns.map .int)), none] = .ret (.dat (.list ((cutD (ns.map PyData.int) none (some 63)).map ab))) := by
    refine lc_all (ds := cutD (ns.map PyData.int) none (some 63)) (g := ab) rfl (fun d hd => ?_) (by omega)
    obtain ⟨i, rfl⟩ := hsub d hd
    exact ⟨_, rfl, rfl⟩
  refine ⟨[some (bagD 0 1234567891 0 ((cutD (ns.map PyData.int) none (some 63)).map ab))], ?_, ⟨0, 1234567891, 0, _, rfl, by decide, by decide, by decide, by rw [List.length_map]; exact hlen, fun x hx => ?_⟩⟩
  · unfold b13
    have e2 : den (callN TT k) (.new (.cons (.c (.int 0)) (.cons (.c (.int 1234567891)) (.cons (.c (.int 0)) (.cons (.lc (.bi .abs (.cons (.v 1) .nil)) (.mk [1] (.name 1) (.seq (.sl (.v 0) .none (.some (.c (.int 63))))) .none)) .nil))))) [some (.ro (ns.map .int)), none] [] = .ok (.mut 0) [some (bagD 0 1234567891 0 ((cutD (ns.map PyData.int) none (some 63)).map ab))] := by
      show ((dens (callN TT k) (.cons (.c (.int 0)) (.cons (.c (.int 1234567891)) (.cons (.c (.int 0)) (.cons (.lc (.bi .abs (.cons (.v 1) .nil)) (.mk [1] (.name 1) (.seq (.sl (.v 0) .none (.some (.c (.int 63))))) .none)) .nil)))) [some (.ro (ns.map .int)), none]).bind fun ds => if szOk ds.length then fun h => Res.ok (D.mut h.length) (h ++ [some ds]) else .no) [] = _
      rw [dens_cons, dens_cons, dens_cons, dens_cons, dens_nil, e1]
      rfl
    rw [denSs_cons, denS_ret]
    show (((den (callN TT k) _ [some (.ro (ns.map .int)), none]).bind _).bind _).bind _ [] = _
    rw [M.bind_assoc, M.bind_assoc, M.at_bind e2]
    rfl
  · obtain ⟨d, hd, rfl⟩ := List.mem_map.mp hx
    obtain ⟨i, rfl⟩ := hsub d hd
    exact ⟨_, rfl, ab_nonneg i⟩
/-- one draw of facts after another -/
theorem two_facts (k : Nat) (ρ : Rho) (hρ : ρ[1]? = some (some (.mut l))) : S l (fun o => ∃ F P : List PyData, o = .nx ((ρ.set 3 (some (.dat (.tuple F)))).set 4 (some (.dat (.tuple P)))) ∧ F.length ≤ 6 ∧ P.length ≤ 3 ∧ (∀ f ∈ F, isFact f) ∧ ∀ f ∈ P, isFact f ∧ ∀ t ∈ termsOf f, t ∈ valsL)
    (denS (callN TT (k + 7)) (.par 3 4 (.bin .add (.call 20 (.cons (.v 1) (.cons (.c (.bool false)) .nil))) (.call 20 (.cons (.v 1) (.cons (.c (.bool false)) .nil)))) (.call 20 (.cons (.v 1) (.cons (.c (.bool true)) .nil)))) ρ) := by
  have ea : ∀ b, den (callN TT (k + 7)) (.call 20 (.cons (.v 1) (.cons (.c (.bool b)) .nil))) ρ = callN TT (k + 7) 20 [.mut l, .dat (.bool b)] := fun b => by
    rw [den_call, dens_cons, dens_cons, dens_nil, den_v, hρ]
    rfl
  rw [denS_par, den_bin, ea, ea]
  simp only [M.bind_assoc]
  refine S.bind (any_facts k false) fun x ⟨F1, ex, h1, h2⟩ => ?_
  subst ex
  refine S.bind (any_facts k false) fun x ⟨F2, ex, h3, h4⟩ => ?_
  subst ex
  have hz : szOk (F1.length + F2.length) = true := decide_eq_true (by omega)
  simp only [add_t, hz]
  (simp only [at_0, at_1, sz0, sz1, sz2, sz3, sz4, sz5, sz6, sz7, sz8, den_neg, den_c, den_v, den_g, den_tup, den_lst, den_bin, den_neg, den_cmp, den_and, den_or, den_not, den_ite, den_ix, den_sl, den_call, den_bi, den_isi, den_get2, dens_nil, dens_cons, deno_none, deno_some, denc_none, denc_some, denIt_seq, denS_set, denS_par, denS_ret, denS_ex, denS_ite, denSs_nil, denSs_cons, rdD_dat, tru_b, tru_i, tru_l, add_i, sub_i, mul_i, fdiv_i, mod_i, add_t, add_l, cmp_eq, cmp_ne, cmp_lt, cmp_ge, cmp_gt, ix_l, ix_t, ix_m, sl_l, bi_tuple_l, bi_list_t, bi_list_l, bi_len_l, bi_len_t, bi_int_i, items_l, items_t, isi_tt, isi_it, isi_st, asInt_i, datAll_nil, datAll_cons, shaped_i, M.ret_bind, M.bind_assoc, M.opt_some, M.rd_const, quiet_ret, List.map_cons, List.map_nil, List.replicate, List.cons_append, List.nil_append, List.getElem?_cons_zero, List.getElem?_cons_succ, join_ss, Option.map_some, Option.bind_some, List.set_cons_zero, List.set_cons_succ, List.length_cons, List.length_nil, ↓reduceIte, Bool.false_eq_true, Bool.not_true, Bool.not_false, Bool.and_self])
  refine S.bind (any_facts k true) fun x ⟨P, ex, h5, h6⟩ => ?_
  subst ex
  refine S.ret ⟨F1 ++ F2, P, rfl, by rw [List.length_append]; omega, h5, fun f hf => ?_, fun f hf => ?_⟩
  · rcases List.mem_append.mp hf with q | q
    · exact (h2 f q).1
    · exact (h4 f q).1
  · obtain ⟨hF, hv⟩ := h6 f hf
    refine ⟨hF, ?_⟩
    obtain ⟨s, ts, rfl, hs, ht, hl⟩ := hF
    exact hv rfl (.str s) ts rfl
/-- a drawn tuple of things -/
theorem many_of (k : Nat) (ρ : Rho) (i f j : Nat) (m : Int) (ψ : PyData → Prop) (hρ : ρ[1]? = some (some (.mut l))) (hj : j ≠ 1) (hm : 0 < m) (hm2 : m ≤ 100) (hf : S l (fun y => ∃ d, y = .dat d ∧ ψ d) (callN TT (k + 1) f [.mut l])) :
    S l (fun o => ∃ L : List PyData, o = .nx (ρ.set i (some (.dat (.tuple L)))) ∧ (∀ d ∈ L, ψ d) ∧ L.length ≤ 100)
    (denS (callN TT (k + 1)) (.set i (.bi .tuple (.cons (.lc (.call f (.cons (.v 1) .nil)) (.mk [j] (.name j) (.rng (.call 14 (.cons (.v 1) (.cons (.c (.int m)) .nil)))) .none)) .nil))) ρ) := by
  rw [denS_set, den_bi, dens_cons, dens_nil]
  simp only [M.bind_assoc]
  refine S.bind (S.lc (n := 100) (R := fun _ => True) (ψ := ψ) (by omega) ((S.rng (n := 100) (by omega) ?_).mono fun xs h => ⟨h.1, fun _ _ => True.intro⟩) fun x _ => ⟨_, rfl, ?_⟩) fun x ⟨L, ex, h1, h2⟩ => ?_
  · rw [den_call, dens_cons, dens_cons, dens_nil, den_v, hρ]
    exact (take k m hm (by omega)).mono fun x ⟨r, ex, q0, q1⟩ => ⟨r, ex, q0, by omega⟩
  · rw [den_call, dens_cons, dens_nil, den_v]
    have : ((wipeR ρ [j]).set j (some x))[1]? = some (some (.mut l)) := by
      rw [List.getElem?_set_ne hj]
      show (ρ.set j none)[1]? = _
      rw [List.getElem?_set_ne hj]; exact hρ
    rw [this]
    exact hf
  · subst ex
    (simp only [at_0, at_1, sz0, sz1, sz2, sz3, sz4, sz5, sz6, sz7, sz8, den_neg, den_c, den_v, den_g, den_tup, den_lst, den_bin, den_neg, den_cmp, den_and, den_or, den_not, den_ite, den_ix, den_sl, den_call, den_bi, den_isi, den_get2, dens_nil, dens_cons, deno_none, deno_some, denc_none, denc_some, denIt_seq, denS_set, denS_par, denS_ret, denS_ex, denS_ite, denSs_nil, denSs_cons, rdD_dat, tru_b, tru_i, tru_l, add_i, sub_i, mul_i, fdiv_i, mod_i, add_t, add_l, cmp_eq, cmp_ne, cmp_lt, cmp_ge, cmp_gt, ix_l, ix_t, ix_m, sl_l, bi_tuple_l, bi_list_t, bi_list_l, bi_len_l, bi_len_t, bi_int_i, items_l, items_t, isi_tt, isi_it, isi_st, asInt_i, datAll_nil, datAll_cons, shaped_i, M.ret_bind, M.bind_assoc, M.opt_some, M.rd_const, quiet_ret, List.map_cons, List.map_nil, List.replicate, List.cons_append, List.nil_append, List.getElem?_cons_zero, List.getElem?_cons_succ, join_ss, Option.map_some, Option.bind_some, List.set_cons_zero, List.set_cons_succ, List.length_cons, List.length_nil, ↓reduceIte, Bool.false_eq_true, Bool.not_true, Bool.not_false, Bool.and_self])
    exact S.ret ⟨L, rfl, h1, h2⟩
end K01
end
section
set_option Elab.async false
set_option linter.all false
set_option maxRecDepth 100000
/-! The law k01, plain: the turn's statements, part one. -/
namespace K01
open PySem DL
variable {l : Nat}
/-- what a turn has drawn -/
structure Drawn (F P L T : List PyData) : Prop where
  fl : F.length ≤ 6
  pl : P.length ≤ 3
  ll : L.length ≤ 100
  tl : T.length ≤ 100
  f : ∀ d ∈ F, isFact d
  p : ∀ d ∈ P, isFact d ∧ ∀ t ∈ termsOf d, t ∈ valsL
  t : ∀ d ∈ T, d ∈ termsL
  te : ∀ d ∈ L, isTel d
structure Tn (l : Nat) (F P L T : List PyData) (ρ : Rho) : Prop where
  len : ρ.length = 21
  h1 : ρ[1]? = some (some (.mut l))
  h3 : ρ[3]? = some (some (.dat (.tuple F)))
  h4 : ρ[4]? = some (some (.dat (.tuple P)))
  h5 : ρ[5]? = some (some (.dat (.tuple L)))
  h7 : ρ[7]? = some (some (.dat (.tuple T)))
theorem Tn.set {F P L T : List PyData} {ρ : Rho} (t : Tn l F P L T ρ) {i : Nat} (x : Option D) (h1 : i ≠ 1) (h3 : i ≠ 3) (h4 : i ≠ 4) (h5 : i ≠ 5) (h7 : i ≠ 7) : Tn l F P L T (ρ.set i x) :=
  ⟨by rw [List.length_set]; exact t.len, by rw [List.getElem?_set_ne h1]; exact t.h1, by rw [List.getElem?_set_ne h3]; exact t.h3, by rw [List.getElem?_set_ne h4]; exact t.h4, by rw [List.getElem?_set_ne h5]; exact t.h5, by rw [List.getElem?_set_ne h7]; exact t.h7⟩
def foundL (F P L T : List PyData) : List PyData := [.tuple (ascL factK F), .tuple (ascL factK P), .tuple (ascL telK L), .tuple (ascL telK L), .tuple (ascL keyT T), .tuple (ascL keyT T)]
section
variable {F P L T : List PyData} {ρ : Rho} {k : Nat}
theorem arg1 {C : Nat → List D → M D} {i f : Nat} {x : D} (h : ρ[i]? = some (some x)) : den C (.call f (.cons (.v i) .nil)) ρ = C f [x] := by
  rw [den_call, dens_cons, dens_nil, den_v, h]; rfl
theorem argL {C : Nat → List D → M D} {i f : Nat} {xs : List PyData} (h : ρ[i]? = some (some (.dat (.tuple xs)))) : den C (.call f (.cons (.bi .list (.cons (.v i) .nil)) .nil)) ρ = C f [.dat (.list xs)] := by
  rw [den_call, dens_cons, dens_nil, den_bi, dens_cons, dens_nil, den_v, h]; rfl
theorem step_found (d : Drawn F P L T) (t : Tn l F P L T ρ) : denS (callN TT (k + 5)) (.set 8 (.lst (.cons (.call 7 (.cons (.v 3) .nil)) (.cons (.call 7 (.cons (.bi .list (.cons (.v 4) .nil)) .nil)) (.cons (.call 8 (.cons (.v 5) .nil)) (.cons (.call 8 (.cons (.bi .list (.cons (.v 5) .nil)) .nil)) (.cons (.call 10 (.cons (.v 7) .nil)) (.cons (.call 10 (.cons (.bi .list (.cons (.v 7) .nil)) .nil)) .nil)))))))) ρ
    = .ret (.nx (ρ.set 8 (some (.dat (.list (foundL F P L T)))))) := by
  have hp : ∀ x ∈ P, isFact x := fun x hx => (d.p x hx).1
  rw [denS_set, den_lst, dens_cons, dens_cons, dens_cons, dens_cons, dens_cons, dens_cons, dens_nil, arg1 t.h3, argL t.h4, arg1 t.h5, argL t.h5, arg1 t.h7, argL t.h7]
  rw [asc_facts k (.dat (.tuple F)) F (fun h => rfl) d.f (by have := d.fl; omega), asc_facts k (.dat (.list P)) P (fun h => rfl) hp (by have := d.pl; omega), asc_tellings k (.dat (.tuple L)) L (fun h => rfl) d.te (by have := d.ll; omega), asc_tellings k (.dat (.list L)) L (fun h => rfl) d.te (by have := d.ll; omega),
    asc_terms (k + 1) (.dat (.tuple T)) T (fun h => rfl) d.t (by have := d.tl; omega), asc_terms (k + 1) (.dat (.list T)) T (fun h => rfl) d.t (by have := d.tl; omega)]
  rfl
theorem step_due (d : Drawn F P L T) (t : Tn l F P L T ρ) : S l (fun o => o = .nx (ρ.set 9 (some (.dat (.list (foundL F P L T)))))) (denS (callN TT (k + 3)) (.set 9 (.lst (.cons (.call 25 (.cons (.v 3) .nil)) (.cons (.call 25 (.cons (.v 4) .nil)) (.cons (.call 26 (.cons (.v 5) .nil)) (.cons (.call 26 (.cons (.v 5) .nil)) (.cons (.call 29 (.cons (.v 7) .nil)) (.cons (.call 29 (.cons (.v 7) .nil)) .nil)))))))) ρ) := by
  have hp : ∀ x ∈ P, isFact x := fun x hx => (d.p x hx).1
  rw [denS_set, den_lst, dens_cons, dens_cons, dens_cons, dens_cons, dens_cons, dens_cons, dens_nil, arg1 t.h3, arg1 t.h4, arg1 t.h5, arg1 t.h7]
  simp only [M.bind_assoc]
  refine S.bind (S.of_app (sorted_facts k (.dat (.tuple F)) F (fun h => rfl) d.f (by have := d.fl; omega))) fun x ex => ?_
  subst ex
  refine S.bind (S.of_app (sorted_facts k (.dat (.tuple P)) P (fun h => rfl) hp (by have := d.pl; omega))) fun x ex => ?_
  subst ex
  refine S.bind (S.of_app (sorted_tellings k (.dat (.tuple L)) L (fun h => rfl) d.te (by have := d.ll; omega))) fun x ex => ?_
  subst ex
  refine S.bind (S.of_app (sorted_tellings k (.dat (.tuple L)) L (fun h => rfl) d.te (by have := d.ll; omega))) fun x ex => ?_
  subst ex
  refine S.bind (S.of_app (sorted_terms (k + 1) (.dat (.tuple T)) T (fun h => rfl) d.t (by have := d.tl; omega))) fun x ex => ?_
  subst ex
  refine S.bind (S.of_app (sorted_terms (k + 1) (.dat (.tuple T)) T (fun h => rfl) d.t (by have := d.tl; omega))) fun x ex => ?_
  subst ex
  (simp only [at_0, at_1, sz0, sz1, sz2, sz3, sz4, sz5, sz6, sz7, sz8, den_neg, den_c, den_v, den_g, den_tup, den_lst, den_bin, den_neg, den_cmp, den_and, den_or, den_not, den_ite, den_ix, den_sl, den_call, den_bi, den_isi, den_get2, dens_nil, dens_cons, deno_none, deno_some, denc_none, denc_some, denIt_seq, denS_set, denS_par, denS_ret, denS_ex, denS_ite, denSs_nil, denSs_cons, rdD_dat, tru_b, tru_i, tru_l, add_i, sub_i, mul_i, fdiv_i, mod_i, add_t, add_l, cmp_eq, cmp_ne, cmp_lt, cmp_ge, cmp_gt, ix_l, ix_t, ix_m, sl_l, bi_tuple_l, bi_list_t, bi_list_l, bi_len_l, bi_len_t, bi_int_i, items_l, items_t, isi_tt, isi_it, isi_st, asInt_i, datAll_nil, datAll_cons, shaped_i, M.ret_bind, M.bind_assoc, M.opt_some, M.rd_const, quiet_ret, List.map_cons, List.map_nil, List.replicate, List.cons_append, List.nil_append, List.getElem?_cons_zero, List.getElem?_cons_succ, join_ss, Option.map_some, Option.bind_some, List.set_cons_zero, List.set_cons_succ, List.length_cons, List.length_nil, ↓reduceIte, Bool.false_eq_true, Bool.not_true, Bool.not_false, Bool.and_self])
  exact S.ret rfl
theorem asc_ok {g : PyData → PyData} {G : PyData → Prop} {n w : Nat} (W : Good g G) {xs : List PyData} (h : ∀ x ∈ xs, G x) (hok : ∀ x, G x → Ok n w x) (hl : xs.length ≤ 1000) (hw : w ≤ 1000) : Ok (n + 1) 1100000 (.tuple (ascL g xs)) := by
  have hlen : (ascL g xs).length ≤ 1000 := by
    unfold ascL
    rw [sortD_len]
    have := sput_lens xs []
    show (xs.foldl sput []).length ≤ 1000
    simp at this
    omega
  refine (Ok.tuple fun x hx => hok x (h x ((ascL_mem W h x).mp hx))).mono (Nat.le_refl _) ?_
  have : (ascL g xs).length * (w + 2) ≤ 1000 * 1002 := Nat.mul_le_mul hlen (by omega)
  omega
theorem found_ok (d : Drawn F P L T) : Ok 5 16777216 (.list (foundL F P L T)) := by
  have hp : ∀ x ∈ P, isFact x := fun x hx => (d.p x hx).1
  have o1 : Ok 4 1100000 (.tuple (ascL factK F)) := asc_ok goodF d.f (fun x h => fact_ok h) (by have := d.fl; omega) (by omega)
  have o2 : Ok 4 1100000 (.tuple (ascL factK P)) := asc_ok goodF hp (fun x h => fact_ok h) (by have := d.pl; omega) (by omega)
  have o3 : Ok 4 1100000 (.tuple (ascL telK L)) := asc_ok goodL d.te (fun x h => (tel_ok h).1) (by have := d.ll; omega) (by omega)
  have o4 : Ok 4 1100000 (.tuple (ascL keyT T)) := (asc_ok goodT d.t (fun x h => ok_of (term_ok x h).1) (by have := d.tl; omega) (by omega)).mono (by omega) (Nat.le_refl _)
  refine (Ok.list (n := 4) (w := 1100000) (xs := foundL F P L T) fun x hx => ?_).mono (Nat.le_refl _) (by simp [foundL])
  simp only [foundL, List.mem_cons, List.not_mem_nil, or_false] at hx
  rcases hx with rfl | rfl | rfl | rfl | rfl | rfl <;> assumption
/-- if not alike: return False -/
theorem step_alike {C : Nat → List D → M D} {e : Ex} (he : den C e ρ = .ret (.dat (.bool true))) : denS C (.ite (.not e) (.cons (.ret (.c (.bool false))) .nil) .nil) ρ = .ret (.nx ρ) := by
  rw [denS_ite, den_not, he]; rfl
theorem step_alikeS {C : Nat → List D → M D} {e : Ex} (he : S l (fun x => x = .dat (.bool true)) (den C e ρ)) : S l (fun o => o = .nx ρ) (denS C (.ite (.not e) (.cons (.ret (.c (.bool false))) .nil) .nil) ρ) := by
  rw [denS_ite, den_not]
  simp only [M.bind_assoc]
  refine S.bind he fun x ex => ?_
  subst ex
  exact S.ret rfl
end
end K01
end
section
set_option Elab.async false
set_option linter.all false
set_option maxRecDepth 100000
/-! The law k01, plain: the turn's statements, part two. -/
namespace K01
open PySem DL
variable {l : Nat}
section
variable {F P L T : List PyData} {ρ : Rho} {k : Nat}
theorem step_values (d : Drawn F P L T) (t : Tn l F P L T ρ) : denS (callN TT k) (.set 10 (.lc (.v 11) (.mk [11] (.name 11) (.seq (.bi .sum2 (.cons (.lc (.bi .list (.cons (.ix (.v 12) (.c (.int 1))) .nil)) (.mk [12] (.name 12) (.seq (.v 3)) .none)) (.cons (.lst .nil) .nil)))) (.some (.not (.isi (.v 11) .tuple)))))) ρ
    = .ret (.nx (ρ.set 10 (some (.dat (.list (valsOf F)))))) := by
  have hmem : ∀ t ∈ F.flatMap termsOf, t ∈ termsL := fun t ht => by
    obtain ⟨f, hf, h⟩ := List.mem_flatMap.mp ht
    exact (fact_terms (d.f f hf)).2 t h
  have hfl : (F.flatMap termsOf).length ≤ 300 := by
    have : ∀ xs : List PyData, (∀ d ∈ xs, isFact d) → (xs.flatMap termsOf).length ≤ xs.length * 3 := by
      intro xs
      induction xs with
      | nil => intro _; exact Nat.le_refl _
      | cons a xs ih =>
        intro h
        have h1 := (fact_terms (h a List.mem_cons_self)).1
        have h2 := ih fun x hx => h x (List.mem_cons_of_mem _ hx)
        rw [List.flatMap_cons, List.length_append, List.length_cons, Nat.succ_mul]
        omega
    have := this F d.f
    have := d.fl
    omega
  have e1 : den (callN TT k) (.lc (.v 11) (.mk [11] (.name 11) (.seq (.bi .sum2 (.cons (.lc (.bi .list (.cons (.ix (.v 12) (.c (.int 1))) .nil)) (.mk [12] (.name 12) (.seq (.v 3)) .none)) (.cons (.lst .nil) .nil)))) (.some (.not (.isi (.v 11) .tuple))))) ρ = .ret (.dat (.list (((F.flatMap termsOf).filter fun t => !isVarD t).map id))) := by
    refine lc_pure (ds := F.flatMap termsOf) (p := fun t => !isVarD t) (g := id) ?_ (fun y hy => ?_) (by omega)
    · rw [denIt_seq, flat_terms (callN TT k) ρ 12 3 (.dat (.tuple F)) F t.h3 (by decide) (by rw [t.len]; decide) (fun h => rfl) d.f (by have := d.fl; omega), M.ret_bind]; rfl
    · have hl : 11 < (wipeR ρ [11]).length := by
        show 11 < (ρ.set 11 none).length
        rw [List.length_set, t.len]; decide
      have hv : den (callN TT k) (.v 11) ((wipeR ρ [11]).set 11 (some (.dat y))) = .ret (.dat y) := by
        rw [den_v, List.getElem?_set_self hl]; rfl
      refine ⟨_, rfl, ?_, fun _ => hv⟩
      rw [denc_some, den_not, den_isi, hv, M.ret_bind, isi_var y (hmem y hy)]
      rfl
  rw [denS_set, e1, vals_flat, M.ret_bind]
theorem plain_vals (d : Drawn F P L T) : P.flatMap termsOf = valsOf P := by
  have h : ∀ xs : List PyData, (∀ f ∈ xs, ∀ t ∈ termsOf f, t ∈ valsL) → xs.flatMap termsOf = valsOf xs := by
    intro xs
    induction xs with
    | nil => intro _; rfl
    | cons a xs ih =>
      intro h
      have hv : ∀ t ∈ valsL, isVarD t = false := by decide +kernel
      have e : ((termsOf a).filter fun t => !isVarD t).map id = termsOf a := by
        rw [List.map_id, List.filter_eq_self]
        intro t ht
        rw [hv t (h a List.mem_cons_self t ht)]; rfl
      have ih := ih fun f hf => h f (List.mem_cons_of_mem _ hf)
      unfold valsOf at ih ⊢
      rw [List.flatMap_cons, List.flatMap_cons, e, ih]
  exact h P fun f hf => (d.p f hf).2
theorem step_every (d : Drawn F P L T) (t : Tn l F P L T ρ) : S l (fun o => o = .nx (ρ.set 13 (some (.dat (.tuple (ascL keyT (valsOf P))))))) (denS (callN TT (k + 2)) (.set 13 (.call 29 (.cons (.bi .sum2 (.cons (.lc (.bi .list (.cons (.ix (.v 12) (.c (.int 1))) .nil)) (.mk [12] (.name 12) (.seq (.v 4)) .none)) (.cons (.lst .nil) .nil))) .nil))) ρ) := by
  have hp : ∀ x ∈ P, isFact x := fun x hx => (d.p x hx).1
  have hlen := valsOf_len P hp
  have := d.pl
  rw [denS_set, den_call, dens_cons, dens_nil, flat_terms (callN TT (k + 2)) ρ 12 4 (.dat (.tuple P)) P t.h4 (by decide) (by rw [t.len]; decide) (fun h => rfl) hp (by omega), plain_vals d]
  simp only [M.bind_assoc, M.ret_bind]
  refine S.bind (S.of_app (sorted_terms k (.dat (.list (valsOf P))) (valsOf P) (fun h => rfl) (valsOf_mem hp) (by omega))) fun x ex => ?_
  subst ex
  exact S.ret rfl
theorem step_told1 (d : Drawn F P L T) (t : Tn l F P L T ρ) (h10 : ρ[10]? = some (some (.dat (.list (valsOf F))))) (h13 : ρ[13]? = some (some (.dat (.tuple (ascL keyT (valsOf P)))))) :
    S l (fun x => x = .dat (.bool true)) (den (callN TT (k + 5)) (.call 16 (.cons (.lst (.cons (.call 9 (.cons (.v 3) .nil)) (.cons (.call 11 (.cons (.v 3) .nil)) (.cons (.call 11 (.cons (.v 4) .nil)) .nil)))) (.cons (.lst (.cons (.bi .tuple (.cons (.call 28 (.cons (.v 3) .nil)) .nil)) (.cons (.call 29 (.cons (.v 10) .nil)) (.cons (.v 13) .nil)))) .nil))) ρ) := by
  have hp : ∀ x ∈ P, isFact x := fun x hx => (d.p x hx).1
  have := d.fl
  have := d.pl
  have lF := valsOf_len F d.f
  have lP := valsOf_len P hp
  rw [den_call, dens_cons, dens_cons, dens_nil, den_lst, den_lst, dens_cons, dens_cons, dens_cons, dens_nil, dens_cons, dens_cons, dens_cons, dens_nil, den_bi, dens_cons, dens_nil, arg1 t.h3, arg1 t.h3, arg1 t.h4, arg1 t.h3, arg1 h10, den_v, h13]
  rw [variables (k + 1) F (.dat (.tuple F)) (fun h => rfl) d.f (by omega), values_in k F (.dat (.tuple F)) (fun h => rfl) d.f (by omega), values_in k P (.dat (.tuple P)) (fun h => rfl) hp (by omega), law_vars (k + 4) F (.dat (.tuple F)) (fun h => rfl) d.f (by omega)]
  (simp only [at_0, at_1, sz0, sz1, sz2, sz3, sz4, sz5, sz6, sz7, sz8, den_neg, den_c, den_v, den_g, den_tup, den_lst, den_bin, den_neg, den_cmp, den_and, den_or, den_not, den_ite, den_ix, den_sl, den_call, den_bi, den_isi, den_get2, dens_nil, dens_cons, deno_none, deno_some, denc_none, denc_some, denIt_seq, denS_set, denS_par, denS_ret, denS_ex, denS_ite, denSs_nil, denSs_cons, rdD_dat, tru_b, tru_i, tru_l, add_i, sub_i, mul_i, fdiv_i, mod_i, add_t, add_l, cmp_eq, cmp_ne, cmp_lt, cmp_ge, cmp_gt, ix_l, ix_t, ix_m, sl_l, bi_tuple_l, bi_list_t, bi_list_l, bi_len_l, bi_len_t, bi_int_i, items_l, items_t, isi_tt, isi_it, isi_st, asInt_i, datAll_nil, datAll_cons, shaped_i, M.ret_bind, M.bind_assoc, M.opt_some, M.rd_const, quiet_ret, List.map_cons, List.map_nil, List.replicate, List.cons_append, List.nil_append, List.getElem?_cons_zero, List.getElem?_cons_succ, join_ss, Option.map_some, Option.bind_some, List.set_cons_zero, List.set_cons_succ, List.length_cons, List.length_nil, ↓reduceIte, Bool.false_eq_true, Bool.not_true, Bool.not_false, Bool.and_self])
  refine S.bind (S.of_app (sorted_terms (k + 3) (.dat (.list (valsOf F))) (valsOf F) (fun h => rfl) (valsOf_mem d.f) (by omega))) fun x ex => ?_
  subst ex
  (simp only [at_0, at_1, sz0, sz1, sz2, sz3, sz4, sz5, sz6, sz7, sz8, den_neg, den_c, den_v, den_g, den_tup, den_lst, den_bin, den_neg, den_cmp, den_and, den_or, den_not, den_ite, den_ix, den_sl, den_call, den_bi, den_isi, den_get2, dens_nil, dens_cons, deno_none, deno_some, denc_none, denc_some, denIt_seq, denS_set, denS_par, denS_ret, denS_ex, denS_ite, denSs_nil, denSs_cons, rdD_dat, tru_b, tru_i, tru_l, add_i, sub_i, mul_i, fdiv_i, mod_i, add_t, add_l, cmp_eq, cmp_ne, cmp_lt, cmp_ge, cmp_gt, ix_l, ix_t, ix_m, sl_l, bi_tuple_l, bi_list_t, bi_list_l, bi_len_l, bi_len_t, bi_int_i, items_l, items_t, isi_tt, isi_it, isi_st, asInt_i, datAll_nil, datAll_cons, shaped_i, M.ret_bind, M.bind_assoc, M.opt_some, M.rd_const, quiet_ret, List.map_cons, List.map_nil, List.replicate, List.cons_append, List.nil_append, List.getElem?_cons_zero, List.getElem?_cons_succ, join_ss, Option.map_some, Option.bind_some, List.set_cons_zero, List.set_cons_succ, List.length_cons, List.length_nil, ↓reduceIte, Bool.false_eq_true, Bool.not_true, Bool.not_false, Bool.and_self])
  have o1 : Ok 4 1100000 (.tuple (sortD (dd (varsOf F)) (dd (varsOf F)))) := by
    have hs := sortD_sub (dd (varsOf F))
    refine (Ok.tuple (n := 0) (w := 25) fun x hx => ?_).mono (by omega) ?_
    · rcases sput_sub _ _ x ((hs.1 x).mp hx) with q | q
      · cases q
      · obtain ⟨s, rfl, hm⟩ := varsOf_mem d.f x q
        exact ok_of (name_ok s hm).1
    · rw [hs.2]
      have h1 := sput_lens (varsOf F) []
      have h2 := vlen F d.f
      have h3 : (dd (varsOf F)).length ≤ 18 := by
        show ((varsOf F).foldl sput []).length ≤ 18
        simp at h1
        omega
      have : (dd (varsOf F)).length * (25 + 2) ≤ 18 * 27 := Nat.mul_le_mul_right _ h3
      omega
  have o2 : Ok 4 1100000 (.tuple (ascL keyT (valsOf F))) := (asc_ok goodT (valsOf_mem d.f) (fun x h => ok_of (term_ok x h).1) (by omega) (by omega)).mono (by omega) (Nat.le_refl _)
  have o3 : Ok 4 1100000 (.tuple (ascL keyT (valsOf P))) := (asc_ok goodT (valsOf_mem hp) (fun x h => ok_of (term_ok x h).1) (by omega) (by omega)).mono (by omega) (Nat.le_refl _)
  have o : Ok 5 16777216 (.list [.tuple (sortD (dd (varsOf F)) (dd (varsOf F))), .tuple (ascL keyT (valsOf F)), .tuple (ascL keyT (valsOf P))]) := (Ok.list (n := 4) (w := 1100000) fun x hx => by
    simp only [List.mem_cons, List.not_mem_nil, or_false] at hx
    rcases hx with rfl | rfl | rfl <;> assumption).mono (Nat.le_refl _) (by simp)
  rw [law_alike (k + 4) _ o (by omega) (by omega)]
  exact S.ret rfl
end
end K01
end
section
set_option Elab.async false
set_option linter.all false
set_option maxRecDepth 100000
/-! The law k01, plain: the turn's statements, part three: the checks in loops. -/
namespace K01
open PySem DL
variable {l : Nat}
section
variable {F P L T : List PyData} {ρ : Rho} {k : Nat}
theorem asc_is {xs : List PyData} (hG : ∀ d ∈ xs, isFact d) : PyData.eqv (.tuple (ascL factK xs)) (.tuple xs) = ascB xs := by
  have c1 : clean (.tuple (ascL factK xs)) = true := cleans_all.mpr fun x hx => (fact_ok (hG x ((ascL_mem goodF hG x).mp hx))).cl
  have c2 : clean (.tuple xs) = true := cleans_all.mpr fun x hx => (fact_ok (hG x hx)).cl
  rw [Bool.eq_iff_iff, eqv_iff c1 c2, ascB_iff, ← asc_fix goodF hG]
  exact ⟨fun e => by injection e, fun e => by rw [e]⟩
theorem check_lot {xs : List PyData} (hG : ∀ d ∈ xs, isFact d) (hl : xs.length ≤ 100) (h14 : ρ[14]? = some (some (.dat (.tuple xs)))) :
    denSs (callN TT (k + 5)) (.cons (.ite (.cmp .ne (.cmp .eq (.call 7 (.cons (.v 14) .nil)) (.v 14)) (.call 27 (.cons (.v 14) .nil))) (.cons (.ret (.c (.bool false))) .nil) .nil) .nil) ρ = .ret (.nx ρ) := by
  have o1 : Ok 4 1100000 (.tuple (ascL factK xs)) := asc_ok goodF hG (fun x h => fact_ok h) (by omega) (by omega)
  have o2 : Ok 4 1100000 (.tuple xs) := (Ok.tuple fun x hx => fact_ok (hG x hx)).mono (Nat.le_refl _) (by have : xs.length * (180 + 2) ≤ 100 * 182 := Nat.mul_le_mul_right _ hl; omega)
  have q1 := eqOk_of o1 o2 (by omega) (by omega)
  have e1 : den (callN TT (k + 5)) (.cmp .ne (.cmp .eq (.call 7 (.cons (.v 14) .nil)) (.v 14)) (.call 27 (.cons (.v 14) .nil))) ρ = .ret (.dat (.bool false)) := by
    rw [den_cmp, den_cmp, arg1 h14, arg1 h14, den_v, h14, asc_facts k (.dat (.tuple xs)) xs (fun h => rfl) hG (by omega), do_ascend (k + 2) xs (.dat (.tuple xs)) (fun h => rfl) hG hl]
    (simp only [at_0, at_1, sz0, sz1, sz2, sz3, sz4, sz5, sz6, sz7, sz8, den_neg, den_c, den_v, den_g, den_tup, den_lst, den_bin, den_neg, den_cmp, den_and, den_or, den_not, den_ite, den_ix, den_sl, den_call, den_bi, den_isi, den_get2, dens_nil, dens_cons, deno_none, deno_some, denc_none, denc_some, denIt_seq, denS_set, denS_par, denS_ret, denS_ex, denS_ite, denSs_nil, denSs_cons, rdD_dat, tru_b, tru_i, tru_l, add_i, sub_i, mul_i, fdiv_i, mod_i, add_t, add_l, cmp_eq, cmp_ne, cmp_lt, cmp_ge, cmp_gt, ix_l, ix_t, ix_m, sl_l, bi_tuple_l, bi_list_t, bi_list_l, bi_len_l, bi_len_t, bi_int_i, items_l, items_t, isi_tt, isi_it, isi_st, asInt_i, datAll_nil, datAll_cons, shaped_i, M.ret_bind, M.bind_assoc, M.opt_some, M.rd_const, quiet_ret, List.map_cons, List.map_nil, List.replicate, List.cons_append, List.nil_append, List.getElem?_cons_zero, List.getElem?_cons_succ, join_ss, Option.map_some, Option.bind_some, List.set_cons_zero, List.set_cons_succ, List.length_cons, List.length_nil, ↓reduceIte, Bool.false_eq_true, Bool.not_true, Bool.not_false, Bool.and_self])
    simp only [q1, asc_is hG]
    (simp only [at_0, at_1, sz0, sz1, sz2, sz3, sz4, sz5, sz6, sz7, sz8, den_neg, den_c, den_v, den_g, den_tup, den_lst, den_bin, den_neg, den_cmp, den_and, den_or, den_not, den_ite, den_ix, den_sl, den_call, den_bi, den_isi, den_get2, dens_nil, dens_cons, deno_none, deno_some, denc_none, denc_some, denIt_seq, denS_set, denS_par, denS_ret, denS_ex, denS_ite, denSs_nil, denSs_cons, rdD_dat, tru_b, tru_i, tru_l, add_i, sub_i, mul_i, fdiv_i, mod_i, add_t, add_l, cmp_eq, cmp_ne, cmp_lt, cmp_ge, cmp_gt, ix_l, ix_t, ix_m, sl_l, bi_tuple_l, bi_list_t, bi_list_l, bi_len_l, bi_len_t, bi_int_i, items_l, items_t, isi_tt, isi_it, isi_st, asInt_i, datAll_nil, datAll_cons, shaped_i, M.ret_bind, M.bind_assoc, M.opt_some, M.rd_const, quiet_ret, List.map_cons, List.map_nil, List.replicate, List.cons_append, List.nil_append, List.getElem?_cons_zero, List.getElem?_cons_succ, join_ss, Option.map_some, Option.bind_some, List.set_cons_zero, List.set_cons_succ, List.length_cons, List.length_nil, ↓reduceIte, Bool.false_eq_true, Bool.not_true, Bool.not_false, Bool.and_self])
    have k1 : ∀ b : Bool, eqOk (.bool b) (.bool b) = true := fun b => by cases b <;> rfl
    have k2 : ∀ b : Bool, PyData.eqv (.bool b) (.bool b) = true := fun b => by cases b <;> rfl
    simp only [k1, k2]
    (simp only [at_0, at_1, sz0, sz1, sz2, sz3, sz4, sz5, sz6, sz7, sz8, den_neg, den_c, den_v, den_g, den_tup, den_lst, den_bin, den_neg, den_cmp, den_and, den_or, den_not, den_ite, den_ix, den_sl, den_call, den_bi, den_isi, den_get2, dens_nil, dens_cons, deno_none, deno_some, denc_none, denc_some, denIt_seq, denS_set, denS_par, denS_ret, denS_ex, denS_ite, denSs_nil, denSs_cons, rdD_dat, tru_b, tru_i, tru_l, add_i, sub_i, mul_i, fdiv_i, mod_i, add_t, add_l, cmp_eq, cmp_ne, cmp_lt, cmp_ge, cmp_gt, ix_l, ix_t, ix_m, sl_l, bi_tuple_l, bi_list_t, bi_list_l, bi_len_l, bi_len_t, bi_int_i, items_l, items_t, isi_tt, isi_it, isi_st, asInt_i, datAll_nil, datAll_cons, shaped_i, M.ret_bind, M.bind_assoc, M.opt_some, M.rd_const, quiet_ret, List.map_cons, List.map_nil, List.replicate, List.cons_append, List.nil_append, List.getElem?_cons_zero, List.getElem?_cons_succ, join_ss, Option.map_some, Option.bind_some, List.set_cons_zero, List.set_cons_succ, List.length_cons, List.length_nil, ↓reduceIte, Bool.false_eq_true, Bool.not_true, Bool.not_false, Bool.and_self])
  rw [denSs_cons, denS_ite, e1]
  rfl
theorem step_lots (d : Drawn F P L T) (t : Tn l F P L T ρ) (h8 : ρ[8]? = some (some (.dat (.list (foundL F P L T))))) :
    S l (fun o => ∃ ρ', o = .nx ρ' ∧ Tn l F P L T ρ' ∧ ρ'[0]? = ρ[0]?) (denS (callN TT (k + 5)) (.for (.name 14) (.seq (.tup (.cons (.v 3) (.cons (.v 4) (.cons (.ix (.v 8) (.c (.int 0))) .nil))))) (.cons (.ite (.cmp .ne (.cmp .eq (.call 7 (.cons (.v 14) .nil)) (.v 14)) (.call 27 (.cons (.v 14) .nil))) (.cons (.ret (.c (.bool false))) .nil) .nil) .nil)) ρ) := by
  have hp : ∀ x ∈ P, isFact x := fun x hx => (d.p x hx).1
  have hi : denIt (callN TT (k + 5)) (.seq (.tup (.cons (.v 3) (.cons (.v 4) (.cons (.ix (.v 8) (.c (.int 0))) .nil))))) ρ = .ret ([PyData.tuple F, .tuple P, .tuple (ascL factK F)].map .dat) := by
    rw [denIt_seq, den_tup, dens_cons, dens_cons, dens_cons, dens_nil, den_ix, den_v, den_v, den_v, t.h3, t.h4, h8]
    rfl
  show S l _ ((denIt (callN TT (k + 5)) (.seq (.tup (.cons (.v 3) (.cons (.v 4) (.cons (.ix (.v 8) (.c (.int 0))) .nil))))) ρ).bind fun xs => loopS (fun x ρ => (M.opt (assignT (.name 14) ρ x)).bind fun ρ' => denSs (callN TT (k + 5)) _ ρ') xs ρ)
  rw [hi, M.ret_bind]
  have step : ∀ x ∈ [PyData.tuple F, .tuple P, .tuple (ascL factK F)].map D.dat, ∃ xs : List PyData, x = .dat (.tuple xs) ∧ (∀ d ∈ xs, isFact d) ∧ xs.length ≤ 100 := by
    intro x hx
    simp only [List.map_cons, List.map_nil, List.mem_cons, List.not_mem_nil, or_false] at hx
    have hla : (ascL factK F).length ≤ 6 := by
      unfold ascL
      rw [sortD_len]
      have := sput_lens F []
      show (F.foldl sput []).length ≤ 6
      have := d.fl
      simp at *
      omega
    rcases hx with rfl | rfl | rfl
    · exact ⟨F, rfl, d.f, by have := d.fl; omega⟩
    · exact ⟨P, rfl, hp, by have := d.pl; omega⟩
    · exact ⟨_, rfl, fun y hy => d.f y ((ascL_mem goodF d.f y).mp hy), by omega⟩
  refine (S.loopS (I := fun ρ' => Tn l F P L T ρ' ∧ ρ'[0]? = ρ[0]?) _ ρ (fun x hx ρ1 ⟨t1, h0⟩ => ?_) ⟨t, rfl⟩).mono fun o ⟨ρ', e, q⟩ => ⟨ρ', e, q⟩
  obtain ⟨xs, rfl, hG, hl⟩ := step x hx
  show S l _ ((M.opt (some (ρ1.set 14 (some (.dat (.tuple xs)))))).bind fun ρ' => denSs (callN TT (k + 5)) _ ρ')
  rw [M.opt_some, M.ret_bind, check_lot (k := k) hG hl (List.getElem?_set_self (by rw [t1.len]; decide))]
  exact S.ret ⟨_, rfl, t1.set _ (by decide) (by decide) (by decide) (by decide) (by decide), by rw [List.getElem?_set_ne (by decide)]; exact h0⟩
end
end K01
end
section
set_option Elab.async false
set_option linter.all false
set_option maxRecDepth 100000
/-! The law k01, plain: the turn's statements, part four: keys of each two. -/
namespace K01
open PySem DL
variable {l : Nat}
section
variable {F P L T : List PyData} {ρ : Rho} {k : Nat} {C : Nat → List D → M D} {g : PyData → PyData} {G : PyData → Prop} {xs : List PyData} {a : PyData} {j f f' : Nat}
theorem nb (b : Bool) : eqOk (.bool b) (.bool b) = true ∧ PyData.eqv (.bool b) (.bool b) = true := by cases b <;> exact ⟨rfl, rfl⟩
theorem no_other (W : Good g G) (hlen : ρ.length = 21) (hj : ρ[j]? = some (some (.dat (.tuple xs)))) (hx : ∀ x ∈ xs, G x) (hl : xs.length ≤ 100) (h15 : ρ[15]? = some (some (.dat a))) (ha : G a) (hf : ∀ x, G x → C f [.dat x] = .ret (.dat (g x))) (hf' : ∀ x, G x → C f' [.dat x] = .ret (.dat (g x))) :
    den C (.lc (.v 17) (.mk [17] (.name 17) (.seq (.v j)) (.some (.cmp .ne (.cmp .lt (.call f (.cons (.v 15) .nil)) (.call f (.cons (.v 17) .nil))) (.cmp .lt (.call f' (.cons (.v 15) .nil)) (.call f' (.cons (.v 17) .nil))))))) ρ = .ret (.dat (.list [])) := by
  have e := lc_pure (C := C) (ρ := ρ) (own := [17]) (tg := .name 17) (it := .seq (.v j)) (cond := .some (.cmp .ne (.cmp .lt (.call f (.cons (.v 15) .nil)) (.call f (.cons (.v 17) .nil))) (.cmp .lt (.call f' (.cons (.v 15) .nil)) (.call f' (.cons (.v 17) .nil))))) (e := .v 17) (ds := xs) (p := fun _ => false) (g := id) (by
    rw [denIt_seq, den_v, hj]; rfl) (fun y hy => ?_) (by omega)
  · rw [e]
    have : xs.filter (fun _ => false) = [] := by rw [List.filter_eq_nil_iff]; simp
    rw [this]; rfl
  · have hl17 : 17 < (wipeR ρ [17]).length := by
      show 17 < (ρ.set 17 none).length
      rw [List.length_set, hlen]; decide
    have a17 : ((wipeR ρ [17]).set 17 (some (.dat y)))[17]? = some (some (.dat y)) := List.getElem?_set_self hl17
    have a15 : ((wipeR ρ [17]).set 17 (some (.dat y)))[15]? = some (some (.dat a)) := by
      rw [List.getElem?_set_ne (by decide)]
      show (ρ.set 17 none)[15]? = _
      rw [List.getElem?_set_ne (by decide)]; exact h15
    refine ⟨_, rfl, ?_, fun z => by cases z⟩
    have al := W.alike a y ha (hx y hy)
    have dp := W.dep a ha
    rw [denc_some, den_cmp, den_cmp, den_cmp, arg1 a15, arg1 a17, arg1 a15, arg1 a17, hf a ha, hf y (hx y hy), hf' a ha, hf' y (hx y hy)]
    (simp only [at_0, at_1, sz0, sz1, sz2, sz3, sz4, sz5, sz6, sz7, sz8, den_neg, den_c, den_v, den_g, den_tup, den_lst, den_bin, den_neg, den_cmp, den_and, den_or, den_not, den_ite, den_ix, den_sl, den_call, den_bi, den_isi, den_get2, dens_nil, dens_cons, deno_none, deno_some, denc_none, denc_some, denIt_seq, denS_set, denS_par, denS_ret, denS_ex, denS_ite, denSs_nil, denSs_cons, rdD_dat, tru_b, tru_i, tru_l, add_i, sub_i, mul_i, fdiv_i, mod_i, add_t, add_l, cmp_eq, cmp_ne, cmp_lt, cmp_ge, cmp_gt, ix_l, ix_t, ix_m, sl_l, bi_tuple_l, bi_list_t, bi_list_l, bi_len_l, bi_len_t, bi_int_i, items_l, items_t, isi_tt, isi_it, isi_st, asInt_i, datAll_nil, datAll_cons, shaped_i, M.ret_bind, M.bind_assoc, M.opt_some, M.rd_const, quiet_ret, List.map_cons, List.map_nil, List.replicate, List.cons_append, List.nil_append, List.getElem?_cons_zero, List.getElem?_cons_succ, join_ss, Option.map_some, Option.bind_some, List.set_cons_zero, List.set_cons_succ, List.length_cons, List.length_nil, ↓reduceIte, Bool.false_eq_true, Bool.not_true, Bool.not_false, Bool.and_self])
    simp only [al, decide_eq_true dp.1, dp.2]
    (simp only [at_0, at_1, sz0, sz1, sz2, sz3, sz4, sz5, sz6, sz7, sz8, den_neg, den_c, den_v, den_g, den_tup, den_lst, den_bin, den_neg, den_cmp, den_and, den_or, den_not, den_ite, den_ix, den_sl, den_call, den_bi, den_isi, den_get2, dens_nil, dens_cons, deno_none, deno_some, denc_none, denc_some, denIt_seq, denS_set, denS_par, denS_ret, denS_ex, denS_ite, denSs_nil, denSs_cons, rdD_dat, tru_b, tru_i, tru_l, add_i, sub_i, mul_i, fdiv_i, mod_i, add_t, add_l, cmp_eq, cmp_ne, cmp_lt, cmp_ge, cmp_gt, ix_l, ix_t, ix_m, sl_l, bi_tuple_l, bi_list_t, bi_list_l, bi_len_l, bi_len_t, bi_int_i, items_l, items_t, isi_tt, isi_it, isi_st, asInt_i, datAll_nil, datAll_cons, shaped_i, M.ret_bind, M.bind_assoc, M.opt_some, M.rd_const, quiet_ret, List.map_cons, List.map_nil, List.replicate, List.cons_append, List.nil_append, List.getElem?_cons_zero, List.getElem?_cons_succ, join_ss, Option.map_some, Option.bind_some, List.set_cons_zero, List.set_cons_succ, List.length_cons, List.length_nil, ↓reduceIte, Bool.false_eq_true, Bool.not_true, Bool.not_false, Bool.and_self])
    simp only [(nb _).1, (nb _).2]
    (simp only [at_0, at_1, sz0, sz1, sz2, sz3, sz4, sz5, sz6, sz7, sz8, den_neg, den_c, den_v, den_g, den_tup, den_lst, den_bin, den_neg, den_cmp, den_and, den_or, den_not, den_ite, den_ix, den_sl, den_call, den_bi, den_isi, den_get2, dens_nil, dens_cons, deno_none, deno_some, denc_none, denc_some, denIt_seq, denS_set, denS_par, denS_ret, denS_ex, denS_ite, denSs_nil, denSs_cons, rdD_dat, tru_b, tru_i, tru_l, add_i, sub_i, mul_i, fdiv_i, mod_i, add_t, add_l, cmp_eq, cmp_ne, cmp_lt, cmp_ge, cmp_gt, ix_l, ix_t, ix_m, sl_l, bi_tuple_l, bi_list_t, bi_list_l, bi_len_l, bi_len_t, bi_int_i, items_l, items_t, isi_tt, isi_it, isi_st, asInt_i, datAll_nil, datAll_cons, shaped_i, M.ret_bind, M.bind_assoc, M.opt_some, M.rd_const, quiet_ret, List.map_cons, List.map_nil, List.replicate, List.cons_append, List.nil_append, List.getElem?_cons_zero, List.getElem?_cons_succ, join_ss, Option.map_some, Option.bind_some, List.set_cons_zero, List.set_cons_succ, List.length_cons, List.length_nil, ↓reduceIte, Bool.false_eq_true, Bool.not_true, Bool.not_false, Bool.and_self])
theorem no_other_eq {n w : Nat} (W : Good g G) (hok : ∀ x, G x → Ok n w (g x)) (hn : n ≤ 64) (hlen : ρ.length = 21) (hj : ρ[j]? = some (some (.dat (.tuple xs)))) (hx : ∀ x ∈ xs, G x) (hl : xs.length ≤ 100) (h15 : ρ[15]? = some (some (.dat a))) (ha : G a) (hf : ∀ x, G x → C f [.dat x] = .ret (.dat (g x))) (hf' : ∀ x, G x → C f' [.dat x] = .ret (.dat (g x))) :
    den C (.lc (.v 17) (.mk [17] (.name 17) (.seq (.v j)) (.some (.cmp .ne (.cmp .eq (.call f (.cons (.v 15) .nil)) (.call f (.cons (.v 17) .nil))) (.cmp .eq (.call f' (.cons (.v 15) .nil)) (.call f' (.cons (.v 17) .nil))))))) ρ = .ret (.dat (.list [])) := by
  have e := lc_pure (C := C) (ρ := ρ) (own := [17]) (tg := .name 17) (it := .seq (.v j)) (cond := .some (.cmp .ne (.cmp .eq (.call f (.cons (.v 15) .nil)) (.call f (.cons (.v 17) .nil))) (.cmp .eq (.call f' (.cons (.v 15) .nil)) (.call f' (.cons (.v 17) .nil))))) (e := .v 17) (ds := xs) (p := fun _ => false) (g := id) (by
    rw [denIt_seq, den_v, hj]; rfl) (fun y hy => ?_) (by omega)
  · rw [e]
    have : xs.filter (fun _ => false) = [] := by rw [List.filter_eq_nil_iff]; simp
    rw [this]; rfl
  · have hl17 : 17 < (wipeR ρ [17]).length := by
      show 17 < (ρ.set 17 none).length
      rw [List.length_set, hlen]; decide
    have a17 : ((wipeR ρ [17]).set 17 (some (.dat y)))[17]? = some (some (.dat y)) := List.getElem?_set_self hl17
    have a15 : ((wipeR ρ [17]).set 17 (some (.dat y)))[15]? = some (some (.dat a)) := by
      rw [List.getElem?_set_ne (by decide)]
      show (ρ.set 17 none)[15]? = _
      rw [List.getElem?_set_ne (by decide)]; exact h15
    refine ⟨_, rfl, ?_, fun z => by cases z⟩
    have q := eqOk_of (hok a ha) (hok y (hx y hy)) hn hn
    rw [denc_some, den_cmp, den_cmp, den_cmp, arg1 a15, arg1 a17, arg1 a15, arg1 a17, hf a ha, hf y (hx y hy), hf' a ha, hf' y (hx y hy)]
    (simp only [at_0, at_1, sz0, sz1, sz2, sz3, sz4, sz5, sz6, sz7, sz8, den_neg, den_c, den_v, den_g, den_tup, den_lst, den_bin, den_neg, den_cmp, den_and, den_or, den_not, den_ite, den_ix, den_sl, den_call, den_bi, den_isi, den_get2, dens_nil, dens_cons, deno_none, deno_some, denc_none, denc_some, denIt_seq, denS_set, denS_par, denS_ret, denS_ex, denS_ite, denSs_nil, denSs_cons, rdD_dat, tru_b, tru_i, tru_l, add_i, sub_i, mul_i, fdiv_i, mod_i, add_t, add_l, cmp_eq, cmp_ne, cmp_lt, cmp_ge, cmp_gt, ix_l, ix_t, ix_m, sl_l, bi_tuple_l, bi_list_t, bi_list_l, bi_len_l, bi_len_t, bi_int_i, items_l, items_t, isi_tt, isi_it, isi_st, asInt_i, datAll_nil, datAll_cons, shaped_i, M.ret_bind, M.bind_assoc, M.opt_some, M.rd_const, quiet_ret, List.map_cons, List.map_nil, List.replicate, List.cons_append, List.nil_append, List.getElem?_cons_zero, List.getElem?_cons_succ, join_ss, Option.map_some, Option.bind_some, List.set_cons_zero, List.set_cons_succ, List.length_cons, List.length_nil, ↓reduceIte, Bool.false_eq_true, Bool.not_true, Bool.not_false, Bool.and_self])
    simp only [q]
    (simp only [at_0, at_1, sz0, sz1, sz2, sz3, sz4, sz5, sz6, sz7, sz8, den_neg, den_c, den_v, den_g, den_tup, den_lst, den_bin, den_neg, den_cmp, den_and, den_or, den_not, den_ite, den_ix, den_sl, den_call, den_bi, den_isi, den_get2, dens_nil, dens_cons, deno_none, deno_some, denc_none, denc_some, denIt_seq, denS_set, denS_par, denS_ret, denS_ex, denS_ite, denSs_nil, denSs_cons, rdD_dat, tru_b, tru_i, tru_l, add_i, sub_i, mul_i, fdiv_i, mod_i, add_t, add_l, cmp_eq, cmp_ne, cmp_lt, cmp_ge, cmp_gt, ix_l, ix_t, ix_m, sl_l, bi_tuple_l, bi_list_t, bi_list_l, bi_len_l, bi_len_t, bi_int_i, items_l, items_t, isi_tt, isi_it, isi_st, asInt_i, datAll_nil, datAll_cons, shaped_i, M.ret_bind, M.bind_assoc, M.opt_some, M.rd_const, quiet_ret, List.map_cons, List.map_nil, List.replicate, List.cons_append, List.nil_append, List.getElem?_cons_zero, List.getElem?_cons_succ, join_ss, Option.map_some, Option.bind_some, List.set_cons_zero, List.set_cons_succ, List.length_cons, List.length_nil, ↓reduceIte, Bool.false_eq_true, Bool.not_true, Bool.not_false, Bool.and_self])
    simp only [(nb _).1, (nb _).2]
    (simp only [at_0, at_1, sz0, sz1, sz2, sz3, sz4, sz5, sz6, sz7, sz8, den_neg, den_c, den_v, den_g, den_tup, den_lst, den_bin, den_neg, den_cmp, den_and, den_or, den_not, den_ite, den_ix, den_sl, den_call, den_bi, den_isi, den_get2, dens_nil, dens_cons, deno_none, deno_some, denc_none, denc_some, denIt_seq, denS_set, denS_par, denS_ret, denS_ex, denS_ite, denSs_nil, denSs_cons, rdD_dat, tru_b, tru_i, tru_l, add_i, sub_i, mul_i, fdiv_i, mod_i, add_t, add_l, cmp_eq, cmp_ne, cmp_lt, cmp_ge, cmp_gt, ix_l, ix_t, ix_m, sl_l, bi_tuple_l, bi_list_t, bi_list_l, bi_len_l, bi_len_t, bi_int_i, items_l, items_t, isi_tt, isi_it, isi_st, asInt_i, datAll_nil, datAll_cons, shaped_i, M.ret_bind, M.bind_assoc, M.opt_some, M.rd_const, quiet_ret, List.map_cons, List.map_nil, List.replicate, List.cons_append, List.nil_append, List.getElem?_cons_zero, List.getElem?_cons_succ, join_ss, Option.map_some, Option.bind_some, List.set_cons_zero, List.set_cons_succ, List.length_cons, List.length_nil, ↓reduceIte, Bool.false_eq_true, Bool.not_true, Bool.not_false, Bool.and_self])
/-- [] != [] is not -/
theorem nil_ne {e : Ex} (he : den C e ρ = .ret (.dat (.list []))) : denS C (.ite (.cmp .ne e (.lst .nil)) (.cons (.ret (.c (.bool false))) .nil) .nil) ρ = .ret (.nx ρ) := by
  rw [denS_ite, den_cmp, he]; rfl
/-- a loop of such checks over the tuple in slot j -/
theorem step_pairs (W : Good g G) (d : Drawn F P L T) (t : Tn l F P L T ρ) (hj : ρ[j]? = some (some (.dat (.tuple xs)))) (hj15 : j ≠ 15) (hx : ∀ x ∈ xs, G x) (hl : xs.length ≤ 100) (hf : ∀ x, G x → C f [.dat x] = .ret (.dat (g x))) (hf' : ∀ x, G x → C f' [.dat x] = .ret (.dat (g x))) :
    S l (fun o => ∃ ρ', o = .nx ρ' ∧ Tn l F P L T ρ' ∧ ρ'[0]? = ρ[0]?) (denS C (.for (.name 15) (.seq (.v j)) (.cons (.ite (.cmp .ne (.lc (.v 17) (.mk [17] (.name 17) (.seq (.v j)) (.some (.cmp .ne (.cmp .lt (.call f (.cons (.v 15) .nil)) (.call f (.cons (.v 17) .nil))) (.cmp .lt (.call f' (.cons (.v 15) .nil)) (.call f' (.cons (.v 17) .nil))))))) (.lst .nil)) (.cons (.ret (.c (.bool false))) .nil) .nil) .nil)) ρ) := by
  have hi : denIt C (.seq (.v j)) ρ = .ret (xs.map .dat) := by
    rw [denIt_seq, den_v, hj]; rfl
  show S l _ ((denIt C (.seq (.v j)) ρ).bind fun ys => loopS (fun x ρ => (M.opt (assignT (.name 15) ρ x)).bind fun ρ' => denSs C _ ρ') ys ρ)
  rw [hi, M.ret_bind]
  refine (S.loopS (I := fun ρ' => (Tn l F P L T ρ' ∧ ρ'[0]? = ρ[0]?) ∧ ρ'[j]? = some (some (.dat (.tuple xs)))) _ ρ (fun x hx' ρ1 ⟨⟨t1, h0⟩, hj1⟩ => ?_) ⟨⟨t, rfl⟩, hj⟩).mono fun o ⟨ρ', e, q⟩ => ⟨ρ', e, q.1⟩
  obtain ⟨y, hy, rfl⟩ := List.mem_map.mp hx'
  show S l _ ((M.opt (some (ρ1.set 15 (some (.dat y))))).bind fun ρ' => denSs C _ ρ')
  have t2 := t1.set (i := 15) (some (.dat y)) (by decide) (by decide) (by decide) (by decide) (by decide)
  have hj2 : (ρ1.set 15 (some (.dat y)))[j]? = some (some (.dat (.tuple xs))) := by rw [List.getElem?_set_ne (Ne.symm hj15)]; exact hj1
  rw [M.opt_some, M.ret_bind, denSs_cons, nil_ne (no_other W t2.len hj2 hx hl (List.getElem?_set_self (by rw [t1.len]; decide)) (hx y hy) hf hf'), M.ret_bind]
  exact S.ret ⟨_, rfl, ⟨t2, by rw [List.getElem?_set_ne (by decide)]; exact h0⟩, hj2⟩
end
end K01
end
section
set_option Elab.async false
set_option linter.all false
set_option maxRecDepth 100000
/-! The law k01, plain: the turn's statements, part five: terms' keys, told ones. -/
namespace K01
open PySem DL
variable {l : Nat}
section
variable {F P L T : List PyData} {ρ : Rho} {k : Nat}
theorem keyT_ok (x : PyData) (h : x ∈ termsL) : Ok 1 25 (keyT x) := ok_of (term_ok x h).2.2.1
theorem step_terms (d : Drawn F P L T) (t : Tn l F P L T ρ) : S l (fun o => ∃ ρ', o = .nx ρ' ∧ Tn l F P L T ρ' ∧ ρ'[0]? = ρ[0]?) (denS (callN TT (k + 3)) (.for (.name 15) (.seq (.v 7)) (.cons (.set 16 (.lc (.v 17) (.mk [17] (.name 17) (.seq (.v 7)) (.some (.cmp .ne (.cmp .lt (.call 4 (.cons (.v 15) .nil)) (.call 4 (.cons (.v 17) .nil))) (.cmp .lt (.call 22 (.cons (.v 15) .nil)) (.call 22 (.cons (.v 17) .nil))))))))
  (.cons (.ite (.cmp .ne (.bin .add (.v 16) (.lc (.v 17) (.mk [17] (.name 17) (.seq (.v 7)) (.some (.cmp .ne (.cmp .eq (.call 4 (.cons (.v 15) .nil)) (.call 4 (.cons (.v 17) .nil))) (.cmp .eq (.call 22 (.cons (.v 15) .nil)) (.call 22 (.cons (.v 17) .nil)))))))) (.lst .nil)) (.cons (.ret (.c (.bool false)))
  .nil) .nil)
  .nil))) ρ) := by
  have hi : denIt (callN TT (k + 3)) (.seq (.v 7)) ρ = .ret (T.map .dat) := by
    rw [denIt_seq, den_v, t.h7]; rfl
  show S l _ ((denIt (callN TT (k + 3)) (.seq (.v 7)) ρ).bind fun ys => loopS (fun x ρ => (M.opt (assignT (.name 15) ρ x)).bind fun ρ' => denSs (callN TT (k + 3)) _ ρ') ys ρ)
  rw [hi, M.ret_bind]
  refine (S.loopS (I := fun ρ' => Tn l F P L T ρ' ∧ ρ'[0]? = ρ[0]?) _ ρ (fun x hx' ρ1 ⟨t1, h0⟩ => ?_) ⟨t, rfl⟩).mono fun o ⟨ρ', e, q⟩ => ⟨ρ', e, q⟩
  obtain ⟨y, hy, rfl⟩ := List.mem_map.mp hx'
  show S l _ ((M.opt (some (ρ1.set 15 (some (.dat y))))).bind fun ρ' => denSs (callN TT (k + 3)) _ ρ')
  have t2 := t1.set (i := 15) (some (.dat y)) (by decide) (by decide) (by decide) (by decide) (by decide)
  have a15 : (ρ1.set 15 (some (.dat y)))[15]? = some (some (.dat y)) := List.getElem?_set_self (by rw [t1.len]; decide)
  have t3 := t2.set (i := 16) (some (.dat (.list []))) (by decide) (by decide) (by decide) (by decide) (by decide)
  have a15' : ((ρ1.set 15 (some (.dat y))).set 16 (some (.dat (.list []))))[15]? = some (some (.dat y)) := by rw [List.getElem?_set_ne (by decide)]; exact a15
  have a16 : ((ρ1.set 15 (some (.dat y))).set 16 (some (.dat (.list []))))[16]? = some (some (.dat (.list []))) := List.getElem?_set_self (by rw [t2.len]; decide)
  rw [M.opt_some, M.ret_bind, denSs_cons, denS_set, no_other goodT t2.len t2.h7 d.t d.tl a15 (d.t y hy) (fun x h => value_key k x h) (fun x h => law_key (k + 2) x h), M.ret_bind, M.ret_bind]
  dsimp only
  have e2 := no_other_eq (C := callN TT (k + 3)) goodT keyT_ok (by decide) t3.len t3.h7 d.t d.tl a15' (d.t y hy) (fun x h => value_key k x h) (fun x h => law_key (k + 2) x h)
  have e3 : den (callN TT (k + 3)) (.bin .add (.v 16) (.lc (.v 17) (.mk [17] (.name 17) (.seq (.v 7)) (.some (.cmp .ne (.cmp .eq (.call 4 (.cons (.v 15) .nil)) (.call 4 (.cons (.v 17) .nil))) (.cmp .eq (.call 22 (.cons (.v 15) .nil)) (.call 22 (.cons (.v 17) .nil)))))))) ((ρ1.set 15 (some (.dat y))).set 16 (some (.dat (.list [])))) = .ret (.dat (.list [])) := by
    rw [den_bin, den_v, a16, e2]; rfl
  rw [denSs_cons, nil_ne e3, M.ret_bind]
  exact S.ret ⟨_, rfl, t3, by rw [List.getElem?_set_ne (by decide), List.getElem?_set_ne (by decide)]; exact h0⟩
/-- told: terms by names -/
theorem pairs_all : ∀ ps : List PyData, (∀ d ∈ ps, ∃ (s : Str) (v : PyData), d = .tuple [.str s, v] ∧ keyOk8 (.str s) = true ∧ v ∈ termsL) → ∃ qs, pairsOf ps = some qs ∧ ∀ q ∈ qs, q.2 ∈ termsL
  | [], _ => ⟨[], rfl, fun _ z => by cases z⟩
  | p :: ps, h => by
    obtain ⟨s, v, rfl, hk, hv⟩ := h p List.mem_cons_self
    obtain ⟨qs, e, hq⟩ := pairs_all ps fun x hx => h x (List.mem_cons_of_mem _ hx)
    refine ⟨(.str s, v) :: qs, ?_, fun q hq' => ?_⟩
    · show (if keyOk8 (.str s) = true then (pairsOf ps).map ((PyData.str s, v) :: ·) else none) = _
      rw [if_pos hk, e]; rfl
    · rcases List.mem_cons.mp hq' with rfl | z
      · exact hv
      · exact hq q z
theorem dput_mem {acc : List (PyData × PyData)} {k v : PyData} (ha : ∀ q ∈ acc, q.2 ∈ termsL) (hv : v ∈ termsL) : ∀ q ∈ dput acc k v, q.2 ∈ termsL := by
  unfold dput
  split
  · intro q hq
    obtain ⟨p, hp, rfl⟩ := List.mem_map.mp hq
    split
    · exact hv
    · exact ha p hp
  · intro q hq
    rcases List.mem_append.mp hq with z | z
    · exact ha q z
    · rw [List.mem_singleton.mp z]; exact hv
theorem dputs_mem : ∀ (qs acc : List (PyData × PyData)), (∀ q ∈ acc, q.2 ∈ termsL) → (∀ q ∈ qs, q.2 ∈ termsL) → ∀ q ∈ dputs acc qs, q.2 ∈ termsL
  | [], acc, ha, _ => ha
  | (k, v) :: qs, acc, ha, hq => dputs_mem qs (dput acc k v) (dput_mem ha (hq _ List.mem_cons_self)) fun q z => hq q (List.mem_cons_of_mem _ z)
end
end K01
end
section
set_option Elab.async false
set_option linter.all false
set_option maxRecDepth 100000
/-! The law k01, plain: the turn's last statements. -/
namespace K01
open PySem DL
variable {l : Nat}
theorem S_lcc {C : Nat → List D → M D} {ρ : Rho} {own : List Nat} {tg : Tg} {it : DL.It} {cond : Ox} {e : Ex} {R : D → Prop} {ψ : PyData → Prop} {n : Nat} (hn : n ≤ 16777216) (hit : S l (fun xs => xs.length ≤ n ∧ ∀ x ∈ xs, R x) (denIt C it ρ))
    (he : ∀ x, R x → ∃ ρ', assignT tg (wipeR ρ own) x = some ρ' ∧ S l (fun _ => True) (denc C cond ρ') ∧ S l (fun y => ∃ d, y = .dat d ∧ ψ d) (den C e ρ')) : S l (fun r => ∃ ds, r = .dat (.list ds) ∧ (∀ d ∈ ds, ψ d) ∧ ds.length ≤ n) (den C (.lc e (.mk own tg it cond)) ρ) := by
  show S l _ ((denIt C it ρ).bind fun xs => (DL.quiet (DL.loopC (fun x acc => (M.opt (assignT tg (wipeR ρ own) x)).bind fun ρ' => (denc C cond ρ').bind fun b =>
      if b = true then (den C e ρ').bind fun y => (match y with
        | .dat d => if acc.length < 16777216 then .ret (acc ++ [d]) else .no
        | _ => .no) else .ret acc) xs [])).bind fun acc => (M.ret (D.dat (.list acc)) : M D))
  refine S.bind hit fun xs ⟨hl, hR⟩ => ?_
  refine S.bind (φ := fun acc : List PyData => acc.length ≤ 0 + xs.length ∧ ∀ d ∈ acc, ψ d) (S.quiet (S.loopC (I := fun j acc => acc.length ≤ j ∧ ∀ d ∈ acc, ψ d) xs 0 [] (fun i x a hx ⟨ha, hq⟩ => ?_) ⟨Nat.le_refl _, fun _ z => by cases z⟩)) fun acc ⟨ha, hq⟩ => S.ret ⟨acc, rfl, hq, by omega⟩
  obtain ⟨ρ', e1, hc, hs⟩ := he x (hR x (List.mem_of_getElem? hx))
  rw [e1, M.opt_some, M.ret_bind]
  refine S.bind hc fun b _ => ?_
  cases b with
  | false => exact S.ret ⟨by omega, hq⟩
  | true =>
    rw [if_pos rfl]
    refine S.bind hs fun y ⟨d, ey, hd⟩ => ?_
    subst ey
    have hi := (List.getElem?_eq_some_iff.mp hx).1
    show S l _ (if a.length < 16777216 then M.ret (a ++ [d]) else M.no)
    rw [if_pos (by omega)]
    refine S.ret ⟨by rw [List.length_append]; simp; omega, fun z hz => ?_⟩
    rcases List.mem_append.mp hz with q | q
    · exact hq z q
    · rw [List.mem_singleton.mp q]; exact hd
section
variable {F P L T : List PyData} {ρ : Rho} {k : Nat}
theorem step_told (d : Drawn F P L T) (t : Tn l F P L T ρ) : S l (fun o => ∃ kvs : List (PyData × PyData), o = .nx (ρ.set 18 (some (.dic kvs))) ∧ ∀ p ∈ kvs, p.2 ∈ termsL) (denS (callN TT (k + 5)) (.set 18 (.bi .dict (.cons (.lc (.tup (.cons (.v 19) (.cons (.call 19 (.cons (.v 1) .nil)) .nil))) (.mk [19] (.name 19) (.seq (.bin .add (.call 28 (.cons (.v 3) .nil)) (.lst (.cons (.c (.str ("zz" : Str))) .nil)))) (.some (.cmp .eq (.call 14 (.cons (.v 1) (.cons (.c (.int 2)) .nil))) (.c (.int 0)))))) .nil))) ρ) := by
  have := d.fl
  have hs := sortD_sub (dd (varsOf F))
  have hlen : (sortD (dd (varsOf F)) (dd (varsOf F))).length ≤ 18 := by
    rw [hs.2]
    have h1 := sput_lens (varsOf F) []
    have h2 := vlen F d.f
    show ((varsOf F).foldl sput []).length ≤ 18
    simp at h1
    omega
  have hz : szOk ((sortD (dd (varsOf F)) (dd (varsOf F))).length + (0 + 1)) = true := decide_eq_true (by omega)
  have zz : keyOk8 (.str "zz") = true := by decide +kernel
  have hi : denIt (callN TT (k + 5)) (.seq (.bin .add (.call 28 (.cons (.v 3) .nil)) (.lst (.cons (.c (.str ("zz" : Str))) .nil)))) ρ = .ret ((sortD (dd (varsOf F)) (dd (varsOf F)) ++ [PyData.str "zz"]).map .dat) := by
    rw [denIt_seq, den_bin, arg1 t.h3, law_vars (k + 4) F (.dat (.tuple F)) (fun h => rfl) d.f (by omega)]
    (simp only [at_0, at_1, sz0, sz1, sz2, sz3, sz4, sz5, sz6, sz7, sz8, den_neg, den_c, den_v, den_g, den_tup, den_lst, den_bin, den_neg, den_cmp, den_and, den_or, den_not, den_ite, den_ix, den_sl, den_call, den_bi, den_isi, den_get2, dens_nil, dens_cons, deno_none, deno_some, denc_none, denc_some, denIt_seq, denS_set, denS_par, denS_ret, denS_ex, denS_ite, denSs_nil, denSs_cons, rdD_dat, tru_b, tru_i, tru_l, add_i, sub_i, mul_i, fdiv_i, mod_i, add_t, add_l, cmp_eq, cmp_ne, cmp_lt, cmp_ge, cmp_gt, ix_l, ix_t, ix_m, sl_l, bi_tuple_l, bi_list_t, bi_list_l, bi_len_l, bi_len_t, bi_int_i, items_l, items_t, isi_tt, isi_it, isi_st, asInt_i, datAll_nil, datAll_cons, shaped_i, M.ret_bind, M.bind_assoc, M.opt_some, M.rd_const, quiet_ret, List.map_cons, List.map_nil, List.replicate, List.cons_append, List.nil_append, List.getElem?_cons_zero, List.getElem?_cons_succ, join_ss, Option.map_some, Option.bind_some, List.set_cons_zero, List.set_cons_succ, List.length_cons, List.length_nil, ↓reduceIte, Bool.false_eq_true, Bool.not_true, Bool.not_false, Bool.and_self])
    simp only [add_l, List.length_cons, List.length_nil, hz]
    (simp only [at_0, at_1, sz0, sz1, sz2, sz3, sz4, sz5, sz6, sz7, sz8, den_neg, den_c, den_v, den_g, den_tup, den_lst, den_bin, den_neg, den_cmp, den_and, den_or, den_not, den_ite, den_ix, den_sl, den_call, den_bi, den_isi, den_get2, dens_nil, dens_cons, deno_none, deno_some, denc_none, denc_some, denIt_seq, denS_set, denS_par, denS_ret, denS_ex, denS_ite, denSs_nil, denSs_cons, rdD_dat, tru_b, tru_i, tru_l, add_i, sub_i, mul_i, fdiv_i, mod_i, add_t, add_l, cmp_eq, cmp_ne, cmp_lt, cmp_ge, cmp_gt, ix_l, ix_t, ix_m, sl_l, bi_tuple_l, bi_list_t, bi_list_l, bi_len_l, bi_len_t, bi_int_i, items_l, items_t, isi_tt, isi_it, isi_st, asInt_i, datAll_nil, datAll_cons, shaped_i, M.ret_bind, M.bind_assoc, M.opt_some, M.rd_const, quiet_ret, List.map_cons, List.map_nil, List.replicate, List.cons_append, List.nil_append, List.getElem?_cons_zero, List.getElem?_cons_succ, join_ss, Option.map_some, Option.bind_some, List.set_cons_zero, List.set_cons_succ, List.length_cons, List.length_nil, ↓reduceIte, Bool.false_eq_true, Bool.not_true, Bool.not_false, Bool.and_self])
  rw [denS_set, den_bi, dens_cons, dens_nil]
  simp only [M.bind_assoc]
  refine S.bind (S_lcc (n := 100) (R := fun x => ∃ s : Str, x = .dat (.str s) ∧ keyOk8 (.str s) = true) (ψ := fun d => ∃ (s : Str) (v : PyData), d = .tuple [.str s, v] ∧ keyOk8 (.str s) = true ∧ v ∈ termsL) (by omega) ?_ ?_) fun x ⟨ps, ex, hp, _⟩ => ?_
  · rw [hi]
    refine S.ret ⟨by rw [List.length_map, List.length_append]; simp; omega, fun x hx => ?_⟩
    obtain ⟨y, hy, rfl⟩ := List.mem_map.mp hx
    rcases List.mem_append.mp hy with q | q
    · rcases sput_sub _ _ y ((hs.1 y).mp q) with z | z
      · cases z
      · obtain ⟨s, rfl, hm⟩ := varsOf_mem d.f y z
        exact ⟨s, rfl, (name_ok s hm).2⟩
    · rw [List.mem_singleton.mp q]
      exact ⟨_, rfl, zz⟩
  · rintro x ⟨s, rfl, hk⟩
    have hl19 : 19 < (wipeR ρ [19]).length := by
      show 19 < (ρ.set 19 none).length
      rw [List.length_set, t.len]; decide
    have a19 : ((wipeR ρ [19]).set 19 (some (.dat (.str s))))[19]? = some (some (.dat (.str s))) := List.getElem?_set_self hl19
    have a1 : ((wipeR ρ [19]).set 19 (some (.dat (.str s))))[1]? = some (some (.mut l)) := by
      rw [List.getElem?_set_ne (by decide)]
      show (ρ.set 19 none)[1]? = _
      rw [List.getElem?_set_ne (by decide)]; exact t.h1
    refine ⟨_, rfl, ?_, ?_⟩
    · rw [denc_some, den_cmp, den_call, dens_cons, dens_cons, dens_nil, den_v, a1]
      (simp only [at_0, at_1, sz0, sz1, sz2, sz3, sz4, sz5, sz6, sz7, sz8, den_neg, den_c, den_v, den_g, den_tup, den_lst, den_bin, den_neg, den_cmp, den_and, den_or, den_not, den_ite, den_ix, den_sl, den_call, den_bi, den_isi, den_get2, dens_nil, dens_cons, deno_none, deno_some, denc_none, denc_some, denIt_seq, denS_set, denS_par, denS_ret, denS_ex, denS_ite, denSs_nil, denSs_cons, rdD_dat, tru_b, tru_i, tru_l, add_i, sub_i, mul_i, fdiv_i, mod_i, add_t, add_l, cmp_eq, cmp_ne, cmp_lt, cmp_ge, cmp_gt, ix_l, ix_t, ix_m, sl_l, bi_tuple_l, bi_list_t, bi_list_l, bi_len_l, bi_len_t, bi_int_i, items_l, items_t, isi_tt, isi_it, isi_st, asInt_i, datAll_nil, datAll_cons, shaped_i, M.ret_bind, M.bind_assoc, M.opt_some, M.rd_const, quiet_ret, List.map_cons, List.map_nil, List.replicate, List.cons_append, List.nil_append, List.getElem?_cons_zero, List.getElem?_cons_succ, join_ss, Option.map_some, Option.bind_some, List.set_cons_zero, List.set_cons_succ, List.length_cons, List.length_nil, ↓reduceIte, Bool.false_eq_true, Bool.not_true, Bool.not_false, Bool.and_self])
      refine S.bind (take (k + 4) 2 (by omega) (by omega)) fun x ⟨r, ex, q0, q1⟩ => ?_
      subst ex
      have : ∀ h : Store, opCmp .eq h (.dat (.int r)) (.dat (.int 0)) = some (r == 0) := fun h => rfl
      simp only [this]
      (simp only [at_0, at_1, sz0, sz1, sz2, sz3, sz4, sz5, sz6, sz7, sz8, den_neg, den_c, den_v, den_g, den_tup, den_lst, den_bin, den_neg, den_cmp, den_and, den_or, den_not, den_ite, den_ix, den_sl, den_call, den_bi, den_isi, den_get2, dens_nil, dens_cons, deno_none, deno_some, denc_none, denc_some, denIt_seq, denS_set, denS_par, denS_ret, denS_ex, denS_ite, denSs_nil, denSs_cons, rdD_dat, tru_b, tru_i, tru_l, add_i, sub_i, mul_i, fdiv_i, mod_i, add_t, add_l, cmp_eq, cmp_ne, cmp_lt, cmp_ge, cmp_gt, ix_l, ix_t, ix_m, sl_l, bi_tuple_l, bi_list_t, bi_list_l, bi_len_l, bi_len_t, bi_int_i, items_l, items_t, isi_tt, isi_it, isi_st, asInt_i, datAll_nil, datAll_cons, shaped_i, M.ret_bind, M.bind_assoc, M.opt_some, M.rd_const, quiet_ret, List.map_cons, List.map_nil, List.replicate, List.cons_append, List.nil_append, List.getElem?_cons_zero, List.getElem?_cons_succ, join_ss, Option.map_some, Option.bind_some, List.set_cons_zero, List.set_cons_succ, List.length_cons, List.length_nil, ↓reduceIte, Bool.false_eq_true, Bool.not_true, Bool.not_false, Bool.and_self])
      exact S.ret True.intro
    · rw [den_tup, dens_cons, dens_cons, dens_nil, den_v, a19, arg1 a1]
      (simp only [at_0, at_1, sz0, sz1, sz2, sz3, sz4, sz5, sz6, sz7, sz8, den_neg, den_c, den_v, den_g, den_tup, den_lst, den_bin, den_neg, den_cmp, den_and, den_or, den_not, den_ite, den_ix, den_sl, den_call, den_bi, den_isi, den_get2, dens_nil, dens_cons, deno_none, deno_some, denc_none, denc_some, denIt_seq, denS_set, denS_par, denS_ret, denS_ex, denS_ite, denSs_nil, denSs_cons, rdD_dat, tru_b, tru_i, tru_l, add_i, sub_i, mul_i, fdiv_i, mod_i, add_t, add_l, cmp_eq, cmp_ne, cmp_lt, cmp_ge, cmp_gt, ix_l, ix_t, ix_m, sl_l, bi_tuple_l, bi_list_t, bi_list_l, bi_len_l, bi_len_t, bi_int_i, items_l, items_t, isi_tt, isi_it, isi_st, asInt_i, datAll_nil, datAll_cons, shaped_i, M.ret_bind, M.bind_assoc, M.opt_some, M.rd_const, quiet_ret, List.map_cons, List.map_nil, List.replicate, List.cons_append, List.nil_append, List.getElem?_cons_zero, List.getElem?_cons_succ, join_ss, Option.map_some, Option.bind_some, List.set_cons_zero, List.set_cons_succ, List.length_cons, List.length_nil, ↓reduceIte, Bool.false_eq_true, Bool.not_true, Bool.not_false, Bool.and_self])
      refine S.bind (any_term k) fun x ⟨v, hv, ex⟩ => ?_
      subst ex
      (simp only [at_0, at_1, sz0, sz1, sz2, sz3, sz4, sz5, sz6, sz7, sz8, den_neg, den_c, den_v, den_g, den_tup, den_lst, den_bin, den_neg, den_cmp, den_and, den_or, den_not, den_ite, den_ix, den_sl, den_call, den_bi, den_isi, den_get2, dens_nil, dens_cons, deno_none, deno_some, denc_none, denc_some, denIt_seq, denS_set, denS_par, denS_ret, denS_ex, denS_ite, denSs_nil, denSs_cons, rdD_dat, tru_b, tru_i, tru_l, add_i, sub_i, mul_i, fdiv_i, mod_i, add_t, add_l, cmp_eq, cmp_ne, cmp_lt, cmp_ge, cmp_gt, ix_l, ix_t, ix_m, sl_l, bi_tuple_l, bi_list_t, bi_list_l, bi_len_l, bi_len_t, bi_int_i, items_l, items_t, isi_tt, isi_it, isi_st, asInt_i, datAll_nil, datAll_cons, shaped_i, M.ret_bind, M.bind_assoc, M.opt_some, M.rd_const, quiet_ret, List.map_cons, List.map_nil, List.replicate, List.cons_append, List.nil_append, List.getElem?_cons_zero, List.getElem?_cons_succ, join_ss, Option.map_some, Option.bind_some, List.set_cons_zero, List.set_cons_succ, List.length_cons, List.length_nil, ↓reduceIte, Bool.false_eq_true, Bool.not_true, Bool.not_false, Bool.and_self])
      exact S.ret ⟨_, rfl, s, v, rfl, hk, hv⟩
  · subst ex
    obtain ⟨qs, eq, hq⟩ := pairs_all ps hp
    have e : (fun h => opBi .dict h [D.dat (.list ps)]) = fun _ => some (.dic (dputs [] qs)) := by
      funext h
      show (pairsOf ps).map (fun ps => D.dic (dputs [] ps)) = _
      rw [eq]; rfl
    rw [M.ret_bind, M.ret_bind, e, M.rd_const, M.ret_bind]
    exact S.ret ⟨_, rfl, dputs_mem qs [] (fun _ z => by cases z) hq⟩
theorem step_put (d : Drawn F P L T) (t : Tn l F P L T ρ) {kvs : List (PyData × PyData)} (h18 : ρ[18]? = some (some (.dic kvs))) (hk : ∀ p ∈ kvs, p.2 ∈ termsL) :
    S l (fun x => x = .dat (.bool true)) (den (callN TT (k + 6)) (.call 16 (.cons (.call 12 (.cons (.v 3) (.cons (.v 18) .nil))) (.cons (.call 25 (.cons (.call 30 (.cons (.v 3) (.cons (.v 18) .nil))) .nil)) .nil))) ρ) := by
  have := d.fl
  have hG : ∀ x ∈ F.map (subF kvs), isFact x := fun x hx => by
    obtain ⟨f, hf, rfl⟩ := List.mem_map.mp hx
    exact subF_fact hk (d.f f hf)
  have e12 : den (callN TT (k + 6)) (.call 12 (.cons (.v 3) (.cons (.v 18) .nil))) ρ = callN TT (k + 6) 12 [.dat (.tuple F), .dic kvs] := by
    rw [den_call, dens_cons, dens_cons, dens_nil, den_v, den_v, t.h3, h18]; rfl
  have e30 : den (callN TT (k + 6)) (.call 30 (.cons (.v 3) (.cons (.v 18) .nil))) ρ = .ret (.dat (.list (F.map (subF kvs)))) := by
    rw [den_call, dens_cons, dens_cons, dens_nil, den_v, den_v, t.h3, h18]
    exact law_put (k + 5) F (.dat (.tuple F)) kvs hk (fun h => rfl) d.f (by omega)
  rw [den_call, dens_cons, dens_cons, dens_nil, e12, den_call, dens_cons, dens_nil, e30]
  simp only [M.bind_assoc, M.ret_bind]
  refine S.bind (S.of_app (put_in k F (.dat (.tuple F)) kvs hk (fun h => rfl) d.f (by omega))) fun x ex => ?_
  subst ex
  refine S.bind (S.of_app (sorted_facts (k + 3) (.dat (.list (F.map (subF kvs)))) (F.map (subF kvs)) (fun h => rfl) hG (by rw [List.length_map]; omega))) fun x ex => ?_
  subst ex
  have o : Ok 4 1100000 (.tuple (ascL factK (F.map (subF kvs)))) := asc_ok goodF hG (fun x h => fact_ok h) (by rw [List.length_map]; omega) (by omega)
  rw [law_alike (k + 5) _ o (by omega) (by omega)]
  exact S.ret rfl
end
end K01
end
section
set_option Elab.async false
set_option linter.all false
set_option maxRecDepth 100000
/-! The law k01, plain: the last three statements. -/
namespace K01
open PySem DL
def mkF (n : String) (ts : List PyData) : PyData := .tuple [.str (n : Str), .tuple ts]
def vA : PyData := .tuple [.str ("var" : Str), .str ("a" : Str)]
def short : List PyData := [mkF "r" [.int 2], mkF "r" [.int 10], mkF "r" [.int (-3)], mkF "r" [.str ("a" : Str)], mkF "r" [vA], mkF "r" [.int 2, .int 0], mkF "q" [.str ("z" : Str)], mkF "r" [vA, .int 1]]
def due : List PyData := [mkF "q" [.str ("z" : Str)], mkF "r" [.int (-3)], mkF "r" [.int 2], mkF "r" [.int 2, .int 0], mkF "r" [.int 10], mkF "r" [.str ("a" : Str)], mkF "r" [vA], mkF "r" [vA, .int 1]]
theorem due_pw : due.Pairwise (fun a b => klt factK a b = true) := by decide +kernel
theorem short_cl : ∀ x ∈ short, clean x = true := by decide +kernel
theorem short_al : ∀ x ∈ short, ∀ y ∈ short, PySem.W.alike (factK x) (factK y) = true := by decide +kernel
theorem short_dep : ∀ x ∈ short, (factK x).depth ≤ 64 ∧ notNone (factK x) = true := by decide +kernel
theorem short_inj : ∀ x ∈ short, ∀ y ∈ short, (PyData.eqv (factK x) (factK y) = true → PyData.eqv x y = true) := by decide +kernel
theorem short_8 : ∀ x ∈ short, keyOk8 x = true := by decide +kernel
theorem goodS : Good factK (· ∈ short) where
  clean := fun x h => short_cl x h
  alike := fun x y hx hy => short_al x hx y hy
  dep := fun x h => short_dep x h
  inj := fun x y hx hy e => eqv_clean (short_cl x hx) (short_cl y hy) (short_inj x hx y hy e)
theorem due_mem (x : PyData) : x ∈ short ↔ x ∈ due := by
  simp only [short, due, List.mem_cons, List.not_mem_nil, or_false]
  constructor <;> (intro h; rcases h with e | e | e | e | e | e | e | e <;> simp [e])
theorem due_is : ascL factK short = due :=
  strict_one (ascL_strict goodS fun _ h => h) due_pw fun x => (ascL_mem goodS (fun _ h => h) x).trans (due_mem x)
theorem short_key : ∀ d, d ∈ short → callN TT 39 5 [.dat d] = .ret (.dat (factK d)) := by
  intro d hd
  simp only [short, List.mem_cons, List.not_mem_nil, or_false] at hd
  rcases hd with e | e | e | e | e | e | e | e <;> subst e <;> kernel_rfl
theorem e7s : callN TT 40 7 [.dat (.list short)] = M.ret (.dat (.tuple due)) := by
  rw [call_step (f := ⟨2, 1, b7⟩) rfl, run_at (n := 2) (p := 1) (by rfl)]
  unfold b7
  (simp only [at_0, at_1, sz0, sz1, sz2, sz3, sz4, sz5, sz6, sz7, sz8, den_neg, den_c, den_v, den_g, den_tup, den_lst, den_bin, den_neg, den_cmp, den_and, den_or, den_not, den_ite, den_ix, den_sl, den_call, den_bi, den_isi, den_get2, dens_nil, dens_cons, deno_none, deno_some, denc_none, denc_some, denIt_seq, denS_set, denS_par, denS_ret, denS_ex, denS_ite, denSs_nil, denSs_cons, rdD_dat, tru_b, tru_i, tru_l, add_i, sub_i, mul_i, fdiv_i, mod_i, add_t, add_l, cmp_eq, cmp_ne, cmp_lt, cmp_ge, cmp_gt, ix_l, ix_t, ix_m, sl_l, bi_tuple_l, bi_list_t, bi_list_l, bi_len_l, bi_len_t, bi_int_i, items_l, items_t, isi_tt, isi_it, isi_st, asInt_i, datAll_nil, datAll_cons, shaped_i, M.ret_bind, M.bind_assoc, M.opt_some, M.rd_const, quiet_ret, List.map_cons, List.map_nil, List.replicate, List.cons_append, List.nil_append, List.getElem?_cons_zero, List.getElem?_cons_succ, join_ss, Option.map_some, Option.bind_some, List.set_cons_zero, List.set_cons_succ, List.length_cons, List.length_nil, ↓reduceIte, Bool.false_eq_true, Bool.not_true, Bool.not_false, Bool.and_self])
  rw [asc_body (x := .dat (.list short)) goodS rfl (by simp) (fun _ => rfl) (fun _ h => h) short_8 short_key (by decide)]
  rw [due_is]
  (simp only [at_0, at_1, sz0, sz1, sz2, sz3, sz4, sz5, sz6, sz7, sz8, den_neg, den_c, den_v, den_g, den_tup, den_lst, den_bin, den_neg, den_cmp, den_and, den_or, den_not, den_ite, den_ix, den_sl, den_call, den_bi, den_isi, den_get2, dens_nil, dens_cons, deno_none, deno_some, denc_none, denc_some, denIt_seq, denS_set, denS_par, denS_ret, denS_ex, denS_ite, denSs_nil, denSs_cons, rdD_dat, tru_b, tru_i, tru_l, add_i, sub_i, mul_i, fdiv_i, mod_i, add_t, add_l, cmp_eq, cmp_ne, cmp_lt, cmp_ge, cmp_gt, ix_l, ix_t, ix_m, sl_l, bi_tuple_l, bi_list_t, bi_list_l, bi_len_l, bi_len_t, bi_int_i, items_l, items_t, isi_tt, isi_it, isi_st, asInt_i, datAll_nil, datAll_cons, shaped_i, M.ret_bind, M.bind_assoc, M.opt_some, M.rd_const, quiet_ret, List.map_cons, List.map_nil, List.replicate, List.cons_append, List.nil_append, List.getElem?_cons_zero, List.getElem?_cons_succ, join_ss, Option.map_some, Option.bind_some, List.set_cons_zero, List.set_cons_succ, List.length_cons, List.length_nil, ↓reduceIte, Bool.false_eq_true, Bool.not_true, Bool.not_false, Bool.and_self])
theorem e7 : callN TT 40 7 [.dat (.tuple [])] = M.ret (.dat (.tuple [])) := by kernel_rfl
theorem e8 : callN TT 40 8 [.dat (.list [])] = M.ret (.dat (.tuple [])) := by kernel_rfl
theorem e10 : callN TT 40 10 [.dat (.tuple [])] = M.ret (.dat (.tuple [])) := by kernel_rfl
theorem e9 : callN TT 40 9 [.dat (.tuple [])] = M.ret (.dat (.tuple [])) := by kernel_rfl
theorem e11 : callN TT 40 11 [.dat (.tuple [])] = M.ret (.dat (.tuple [])) := by kernel_rfl
def res : PyData := .list [.tuple due, .tuple [], .tuple [], .tuple [], .tuple [], .tuple []]
theorem e16 : callN TT 40 16 [.dat res, .dat res] = M.ret (.dat (.bool true)) := by kernel_rfl
end K01
end
section
set_option Elab.async false
set_option linter.all false
set_option maxRecDepth 100000
/-! The law k01, plain: the whole. -/
namespace K01
open PySem DL
def turnB : Sms := match b31 with
  | .cons _ (.cons (.for _ _ b) _) => b
  | _ => .nil
def endB : Sms := match b31 with
  | .cons _ (.cons _ r) => r
  | _ => .nil
theorem end_true (x0 x1 x2 x3 x4 x5 x6 x7 x8 x9 x10 x11 x12 x13 x14 x15 x16 x17 x18 x19 x20 : Option D) : denSs (callN TT 40) endB [x0, x1, x2, x3, x4, x5, x6, x7, x8, x9, x10, x11, x12, x13, x14, x15, x16, x17, x18, x19, x20] = M.ret (.rt (.dat (.bool true))) := by
  have a := e7s
  have b := e7
  have c := e8
  have d := e10
  have e := e9
  have f := e11
  have g := e16
  generalize callN TT 40 = C at a b c d e f g ⊢
  unfold endB b31
  dsimp only
  (simp only [at_0, at_1, sz0, sz1, sz2, sz3, sz4, sz5, sz6, sz7, sz8, den_neg, den_c, den_v, den_g, den_tup, den_lst, den_bin, den_neg, den_cmp, den_and, den_or, den_not, den_ite, den_ix, den_sl, den_call, den_bi, den_isi, den_get2, dens_nil, dens_cons, deno_none, deno_some, denc_none, denc_some, denIt_seq, denS_set, denS_par, denS_ret, denS_ex, denS_ite, denSs_nil, denSs_cons, rdD_dat, tru_b, tru_i, tru_l, add_i, sub_i, mul_i, fdiv_i, mod_i, add_t, add_l, cmp_eq, cmp_ne, cmp_lt, cmp_ge, cmp_gt, ix_l, ix_t, ix_m, sl_l, bi_tuple_l, bi_list_t, bi_list_l, bi_len_l, bi_len_t, bi_int_i, items_l, items_t, isi_tt, isi_it, isi_st, asInt_i, datAll_nil, datAll_cons, shaped_i, M.ret_bind, M.bind_assoc, M.opt_some, M.rd_const, quiet_ret, List.map_cons, List.map_nil, List.replicate, List.cons_append, List.nil_append, List.getElem?_cons_zero, List.getElem?_cons_succ, join_ss, Option.map_some, Option.bind_some, List.set_cons_zero, List.set_cons_succ, List.length_cons, List.length_nil, ↓reduceIte, Bool.false_eq_true, Bool.not_true, Bool.not_false, Bool.and_self])
  refine (congrArg (fun m => M.bind m _) a).trans ?_
  rw [M.ret_bind, b, M.ret_bind, c, M.ret_bind, d, M.ret_bind, e, M.ret_bind, f, M.ret_bind]
  show (M.ret (D.dat res)).bind (fun x => (C 16 [x, D.dat res]).bind fun x => M.ret (Oc.rt x)) = _
  rw [M.ret_bind, g, M.ret_bind]
theorem list21 {α : Type} (r : List α) (h : r.length = 21) : ∃ x0 x1 x2 x3 x4 x5 x6 x7 x8 x9 x10 x11 x12 x13 x14 x15 x16 x17 x18 x19 x20, r = [x0, x1, x2, x3, x4, x5, x6, x7, x8, x9, x10, x11, x12, x13, x14, x15, x16, x17, x18, x19, x20] := by
  rcases r with _ | ⟨x0, r⟩
  · simp at h
  rcases r with _ | ⟨x1, r⟩
  · simp at h
  rcases r with _ | ⟨x2, r⟩
  · simp at h
  rcases r with _ | ⟨x3, r⟩
  · simp at h
  rcases r with _ | ⟨x4, r⟩
  · simp at h
  rcases r with _ | ⟨x5, r⟩
  · simp at h
  rcases r with _ | ⟨x6, r⟩
  · simp at h
  rcases r with _ | ⟨x7, r⟩
  · simp at h
  rcases r with _ | ⟨x8, r⟩
  · simp at h
  rcases r with _ | ⟨x9, r⟩
  · simp at h
  rcases r with _ | ⟨x10, r⟩
  · simp at h
  rcases r with _ | ⟨x11, r⟩
  · simp at h
  rcases r with _ | ⟨x12, r⟩
  · simp at h
  rcases r with _ | ⟨x13, r⟩
  · simp at h
  rcases r with _ | ⟨x14, r⟩
  · simp at h
  rcases r with _ | ⟨x15, r⟩
  · simp at h
  rcases r with _ | ⟨x16, r⟩
  · simp at h
  rcases r with _ | ⟨x17, r⟩
  · simp at h
  rcases r with _ | ⟨x18, r⟩
  · simp at h
  rcases r with _ | ⟨x19, r⟩
  · simp at h
  rcases r with _ | ⟨x20, r⟩
  · simp at h
  rcases r with _ | ⟨y, r⟩
  · exact ⟨_, _, _, _, _, _, _, _, _, _, _, _, _, _, _, _, _, _, _, _, _, rfl⟩
  · simp at h
theorem turn {l : Nat} (ρ : Rho) (hl : ρ.length = 21) (h1 : ρ[1]? = some (some (.mut l))) : S l (fun o => ∃ ρ', o = .nx ρ' ∧ ρ'.length = 21 ∧ ρ'[1]? = some (some (.mut l))) (denSs (callN TT 40) turnB ρ) := by
  show S l _ (denSs (callN TT 40) (match b31 with | .cons _ (.cons (.for _ _ b) _) => b | _ => .nil) ρ)
  unfold b31
  dsimp only
  rw [denSs_cons]
  refine S.bind (two_facts 33 ρ h1) fun o ⟨F, P, e, f1, f2, f3, f4⟩ => ?_
  subst e
  dsimp only
  have l1 : ((ρ.set 3 (some (.dat (.tuple F)))).set 4 (some (.dat (.tuple P)))).length = 21 := by rw [List.length_set, List.length_set]; exact hl
  have a1 : ((ρ.set 3 (some (.dat (.tuple F)))).set 4 (some (.dat (.tuple P))))[1]? = some (some (.mut l)) := by rw [List.getElem?_set_ne (by decide), List.getElem?_set_ne (by decide)]; exact h1
  have a3 : ((ρ.set 3 (some (.dat (.tuple F)))).set 4 (some (.dat (.tuple P))))[3]? = some (some (.dat (.tuple F))) := by rw [List.getElem?_set_ne (by decide), List.getElem?_set_self (by rw [hl]; decide)]
  have a4 : ((ρ.set 3 (some (.dat (.tuple F)))).set 4 (some (.dat (.tuple P))))[4]? = some (some (.dat (.tuple P))) := by rw [List.getElem?_set_self (by rw [List.length_set, hl]; decide)]
  generalize (ρ.set 3 (some (.dat (.tuple F)))).set 4 (some (.dat (.tuple P))) = ρ1 at l1 a1 a3 a4
  rw [denSs_cons]
  refine S.bind (many_of 39 ρ1 5 21 6 5 isTel a1 (by decide) (by decide) (by decide) (any_telling 34)) fun o ⟨L, e, g1, g2⟩ => ?_
  subst e
  dsimp only
  have b1 : (ρ1.set 5 (some (.dat (.tuple L))))[1]? = some (some (.mut l)) := by rw [List.getElem?_set_ne (by decide)]; exact a1
  rw [denSs_cons]
  refine S.bind (many_of 39 (ρ1.set 5 (some (.dat (.tuple L)))) 7 19 6 7 (· ∈ termsL) b1 (by decide) (by decide) (by decide) ((any_term 35).mono fun x ⟨d, hd, ex⟩ => ⟨d, ex, hd⟩)) fun o ⟨T, e, g3, g4⟩ => ?_
  subst e
  dsimp only
  have d : Drawn F P L T := ⟨f1, f2, g2, g4, f3, f4, g3, g1⟩
  have t : Tn l F P L T ((ρ1.set 5 (some (.dat (.tuple L)))).set 7 (some (.dat (.tuple T)))) := ⟨by rw [List.length_set, List.length_set]; exact l1, by rw [List.getElem?_set_ne (by decide)]; exact b1, by rw [List.getElem?_set_ne (by decide), List.getElem?_set_ne (by decide)]; exact a3, by rw [List.getElem?_set_ne (by decide), List.getElem?_set_ne (by decide)]; exact a4,
    by rw [List.getElem?_set_ne (by decide), List.getElem?_set_self (by rw [l1]; decide)], by rw [List.getElem?_set_self (by rw [List.length_set, l1]; decide)]⟩
  generalize (ρ1.set 5 (some (.dat (.tuple L)))).set 7 (some (.dat (.tuple T))) = ρ2 at t
  rw [denSs_cons, step_found (k := 35) d t, M.ret_bind]
  dsimp only
  have t2 := t.set (i := 8) (some (.dat (.list (foundL F P L T)))) (by decide) (by decide) (by decide) (by decide) (by decide)
  have s8 : (ρ2.set 8 (some (.dat (.list (foundL F P L T)))))[8]? = some (some (.dat (.list (foundL F P L T)))) := List.getElem?_set_self (by rw [t.len]; decide)
  generalize ρ2.set 8 (some (.dat (.list (foundL F P L T)))) = ρ3 at t2 s8
  rw [denSs_cons]
  refine S.bind (step_due (k := 37) d t2) fun o e => ?_
  subst e
  dsimp only
  have t3 := t2.set (i := 9) (some (.dat (.list (foundL F P L T)))) (by decide) (by decide) (by decide) (by decide) (by decide)
  have s9 : (ρ3.set 9 (some (.dat (.list (foundL F P L T)))))[9]? = some (some (.dat (.list (foundL F P L T)))) := List.getElem?_set_self (by rw [t2.len]; decide)
  have s8' : (ρ3.set 9 (some (.dat (.list (foundL F P L T)))))[8]? = some (some (.dat (.list (foundL F P L T)))) := by rw [List.getElem?_set_ne (by decide)]; exact s8
  generalize ρ3.set 9 (some (.dat (.list (foundL F P L T)))) = ρ4 at t3 s9 s8'
  have c16 : den (callN TT 40) (.call 16 (.cons (.v 8) (.cons (.v 9) .nil))) ρ4 = .ret (.dat (.bool true)) := by
    rw [den_call, dens_cons, dens_cons, dens_nil, den_v, den_v, s8', s9]
    exact law_alike 39 _ (found_ok d) (by decide) (by decide)
  rw [denSs_cons, step_alike c16, M.ret_bind]
  dsimp only
  rw [denSs_cons, step_values d t3, M.ret_bind]
  dsimp only
  have t4 := t3.set (i := 10) (some (.dat (.list (valsOf F)))) (by decide) (by decide) (by decide) (by decide) (by decide)
  have s10 : (ρ4.set 10 (some (.dat (.list (valsOf F)))))[10]? = some (some (.dat (.list (valsOf F)))) := List.getElem?_set_self (by rw [t3.len]; decide)
  have s84 : (ρ4.set 10 (some (.dat (.list (valsOf F)))))[8]? = some (some (.dat (.list (foundL F P L T)))) := by rw [List.getElem?_set_ne (by decide)]; exact s8'
  generalize ρ4.set 10 (some (.dat (.list (valsOf F)))) = ρ5 at t4 s10 s84
  rw [denSs_cons]
  refine S.bind (step_every (k := 38) d t4) fun o e => ?_
  subst e
  dsimp only
  have t5 := t4.set (i := 13) (some (.dat (.tuple (ascL keyT (valsOf P))))) (by decide) (by decide) (by decide) (by decide) (by decide)
  have s13 : (ρ5.set 13 (some (.dat (.tuple (ascL keyT (valsOf P))))))[13]? = some (some (.dat (.tuple (ascL keyT (valsOf P))))) := List.getElem?_set_self (by rw [t4.len]; decide)
  have s105 : (ρ5.set 13 (some (.dat (.tuple (ascL keyT (valsOf P))))))[10]? = some (some (.dat (.list (valsOf F)))) := by rw [List.getElem?_set_ne (by decide)]; exact s10
  have s85 : (ρ5.set 13 (some (.dat (.tuple (ascL keyT (valsOf P))))))[8]? = some (some (.dat (.list (foundL F P L T)))) := by rw [List.getElem?_set_ne (by decide)]; exact s84
  generalize ρ5.set 13 (some (.dat (.tuple (ascL keyT (valsOf P))))) = ρ6 at t5 s13 s105 s85
  rw [denSs_cons]
  refine S.bind (step_alikeS (step_told1 (k := 35) d t5 s105 s13)) fun o e => ?_
  subst e
  dsimp only
  rw [denSs_cons]
  refine S.bind (step_lots (k := 35) d t5 s85) fun o ⟨ρ7, e, t6, _⟩ => ?_
  subst e
  dsimp only
  rw [denSs_cons]
  refine S.bind (step_terms (k := 37) d t6) fun o ⟨ρ8, e, t7, _⟩ => ?_
  subst e
  dsimp only
  rw [denSs_cons]
  refine S.bind (step_pairs goodF d t7 t7.h3 (by decide) d.f (by have := d.fl; omega) (fun x h => fact_key 36 x h) (fun x h => law_fact_key 38 x h)) fun o ⟨ρ9, e, t8, _⟩ => ?_
  subst e
  dsimp only
  rw [denSs_cons]
  refine S.bind (step_pairs goodL d t8 t8.h5 (by decide) d.te d.ll (fun x h => telling_key 36 x h) (fun x h => law_telling_key 38 x h)) fun o ⟨ρ10, e, t9, _⟩ => ?_
  subst e
  dsimp only
  rw [denSs_cons]
  refine S.bind (step_told (k := 35) d t9) fun o ⟨kvs, e, hk⟩ => ?_
  subst e
  dsimp only
  have t10 := t9.set (i := 18) (some (.dic kvs)) (by decide) (by decide) (by decide) (by decide) (by decide)
  have s18 : (ρ10.set 18 (some (.dic kvs)))[18]? = some (some (.dic kvs)) := List.getElem?_set_self (by rw [t9.len]; decide)
  rw [denSs_cons]
  refine S.bind (step_alikeS (step_put (k := 34) d t10 s18 hk)) fun o e => ?_
  subst e
  dsimp only
  rw [denSs_nil]
  exact S.ret ⟨_, rfl, t10.len, t10.h1⟩
theorem law_true (ns : List Int) (hl : ns.length ≤ 63) (hb : ∀ z ∈ ns, Builtin.Int.intBits z ≤ 1048576) : ∃ h, callN TT 41 31 [.ro (ns.map .int)] [] = .ok (.dat (.bool true)) h := by
  obtain ⟨h1, e1, B1⟩ := law_bag 39 ns hl
  have hi : denIt (callN TT 40) (.rng (.c (.int 10))) [some (.ro (ns.map .int)), some (.mut 0), none, none, none, none, none, none, none, none, none, none, none, none, none, none, none, none, none, none, none] = .ret ((List.range 10).map fun (i : Nat) => D.dat (.int (i : Int))) := rfl
  obtain ⟨o, h2, e2, ⟨ρ', eo, hl', _⟩, B2, _⟩ := S.loopS (l := 0) (f := fun x ρ => (M.opt (assignT (.name 2) ρ x)).bind fun ρ' => denSs (callN TT 40) turnB ρ') (I := fun ρ => ρ.length = 21 ∧ ρ[1]? = some (some (.mut 0))) ((List.range 10).map fun (i : Nat) => D.dat (.int (i : Int))) [some (.ro (ns.map .int)), some (.mut 0), none, none, none, none, none, none, none, none, none, none, none, none, none, none, none, none, none, none, none]
    (fun x hx ρ ⟨q1, q2⟩ => by
      show S 0 _ ((M.opt (some (ρ.set 2 (some x)))).bind fun ρ' => denSs (callN TT 40) turnB ρ')
      rw [M.opt_some, M.ret_bind]
      exact turn (ρ.set 2 (some x)) (by rw [List.length_set]; exact q1) (by rw [List.getElem?_set_ne (by decide)]; exact q2)) ⟨rfl, rfl⟩ h1 B1
  subst eo
  obtain ⟨x0, x1, x2, x3, x4, x5, x6, x7, x8, x9, x10, x11, x12, x13, x14, x15, x16, x17, x18, x19, x20, er⟩ := list21 ρ' hl'
  subst er
  refine ⟨h2, ?_⟩
  rw [call_step (f := ⟨21, 1, b31⟩) rfl, run_at (n := 21) (p := 1) (by rfl)]
  show (((((callN TT 40 13 [.ro (ns.map .int)]).bind fun x => M.ret (Oc.nx [some (.ro (ns.map .int)), some x, none, none, none, none, none, none, none, none, none, none, none, none, none, none, none, none, none, none, none])).bind fun o => match o with
    | .nx ρ' => (((denIt (callN TT 40) (.rng (.c (.int 10))) ρ').bind fun xs => loopS (fun x ρ => (M.opt (assignT (.name 2) ρ x)).bind fun ρ' => denSs (callN TT 40) turnB ρ') xs ρ').bind fun o => match o with
      | .nx ρ' => denSs (callN TT 40) endB ρ'
      | .rt d => M.ret (Oc.rt d))
    | .rt d => M.ret (Oc.rt d))).bind fun o => match o with
    | .nx _ => M.ret (D.dat .none)
    | .rt d => M.ret d) [] = _
  rw [M.bind_assoc, M.bind_assoc, M.at_bind e1, M.ret_bind]
  dsimp only
  rw [hi, M.ret_bind, M.bind_assoc, M.at_bind e2]
  dsimp only
  rw [end_true]
  rfl
end K01
end
section
set_option Elab.async false
set_option linter.all false
set_option maxRecDepth 100000
open PySem PySem.W PyProof.Rows


set_option maxHeartbeats 0 in
theorem PySem.Challenge.cw_countalike_k01_orders_of_terms_facts_and_holds : PySem.Challenge.rw_countalike_k01_orders_of_terms_facts_and.Holds := by
  w_on; o_law; k_head; (case hw => w_witness2)
  k_fill
  refine DL.walk_end (l := PySem.Challenge.rw_countalike_k01_orders_of_terms_facts_and) (n := 63) (k := 41) (i := 31) (x := "script") (TT := K01.TT) rfl (by decide) rfl ⟨rfl, by decide, by decide⟩ (fun w h Y => PySem.W.km_in_of Y) ?F ?R
  case R => exact K01.law_true
  case F =>
    intro w mg fa h Y KX G hmg
    refine' K01.all_mk (k := 40) KX G hmg (PySem.W.km_tabs_of Y) ?hbl ?hco ?D0 ?D1 ?D2 ?D3 ?D4 ?D5 ?D6 ?D7 ?D8 ?D9 ?D10 ?D11 ?D12 ?D13 ?D14 ?D15 ?D16 ?D17 ?D18 ?D19 ?D20 ?D21 ?D22 ?D23 ?D24 ?D25 ?D26 ?D27 ?D28 ?D29 ?D30 ?D31 ?hnd
    (case hbl => kernel_rfl); (case hco => kernel_rfl)
    (case D0 => ((refine' ⟨_, _, DL.def_mk ?a ?l ?c ?k⟩; (case a => k_is); (case l => k_is); (case c => k_is); (case k => k_is))))
    (case D1 => ((refine' ⟨_, _, DL.def_mk ?a ?l ?c ?k⟩; (case a => k_is); (case l => k_is); (case c => k_is); (case k => k_is))))
    (case D2 => ((refine' ⟨_, _, DL.def_mk ?a ?l ?c ?k⟩; (case a => k_is); (case l => k_is); (case c => k_is); (case k => k_is))))
    (case D3 => ((refine' ⟨_, _, DL.def_mk ?a ?l ?c ?k⟩; (case a => k_is); (case l => k_is); (case c => k_is); (case k => k_is))))
    (case D4 => ((refine' ⟨_, _, DL.def_mk ?a ?l ?c ?k⟩; (case a => k_is); (case l => k_is); (case c => k_is); (case k => k_is))))
    (case D5 => ((refine' ⟨_, _, DL.def_mk ?a ?l ?c ?k⟩; (case a => k_is); (case l => k_is); (case c => k_is); (case k => k_is))))
    (case D6 => ((refine' ⟨_, _, DL.def_mk ?a ?l ?c ?k⟩; (case a => k_is); (case l => k_is); (case c => k_is); (case k => k_is))))
    (case D7 => ((refine' ⟨_, _, DL.def_mk ?a ?l ?c ?k⟩; (case a => k_is); (case l => k_is); (case c => k_is); (case k => k_is))))
    (case D8 => ((refine' ⟨_, _, DL.def_mk ?a ?l ?c ?k⟩; (case a => k_is); (case l => k_is); (case c => k_is); (case k => k_is))))
    (case D9 => ((refine' ⟨_, _, DL.def_mk ?a ?l ?c ?k⟩; (case a => k_is); (case l => k_is); (case c => k_is); (case k => k_is))))
    (case D10 => ((refine' ⟨_, _, DL.def_mk ?a ?l ?c ?k⟩; (case a => k_is); (case l => k_is); (case c => k_is); (case k => k_is))))
    (case D11 => ((refine' ⟨_, _, DL.def_mk ?a ?l ?c ?k⟩; (case a => k_is); (case l => k_is); (case c => k_is); (case k => k_is))))
    (case D12 => ((refine' ⟨_, _, DL.def_mk ?a ?l ?c ?k⟩; (case a => k_is); (case l => k_is); (case c => k_is); (case k => k_is))))
    (case D13 => ((refine' ⟨_, _, DL.def_mk ?a ?l ?c ?k⟩; (case a => k_is); (case l => k_is); (case c => k_is); (case k => k_is))))
    (case D14 => ((refine' ⟨_, _, DL.def_mk ?a ?l ?c ?k⟩; (case a => k_is); (case l => k_is); (case c => k_is); (case k => k_is))))
    (case D15 => ((refine' ⟨_, _, DL.def_mk ?a ?l ?c ?k⟩; (case a => k_is); (case l => k_is); (case c => k_is); (case k => k_is))))
    (case D16 => ((refine' ⟨_, _, DL.def_mk ?a ?l ?c ?k⟩; (case a => k_is); (case l => k_is); (case c => k_is); (case k => k_is))))
    (case D17 => ((refine' ⟨_, _, DL.def_mk ?a ?l ?c ?k⟩; (case a => k_is); (case l => k_is); (case c => k_is); (case k => k_is))))
    (case D18 => ((refine' ⟨_, _, DL.def_mk ?a ?l ?c ?k⟩; (case a => k_is); (case l => k_is); (case c => k_is); (case k => k_is))))
    (case D19 => ((refine' ⟨_, _, DL.def_mk ?a ?l ?c ?k⟩; (case a => k_is); (case l => k_is); (case c => k_is); (case k => k_is))))
    (case D20 => ((refine' ⟨_, _, DL.def_mk ?a ?l ?c ?k⟩; (case a => k_is); (case l => k_is); (case c => k_is); (case k => k_is))))
    (case D21 => ((refine' ⟨_, _, DL.def_mk ?a ?l ?c ?k⟩; (case a => k_is); (case l => k_is); (case c => k_is); (case k => k_is))))
    (case D22 => ((refine' ⟨_, _, DL.def_mk ?a ?l ?c ?k⟩; (case a => k_is); (case l => k_is); (case c => k_is); (case k => k_is))))
    (case D23 => ((refine' ⟨_, _, DL.def_mk ?a ?l ?c ?k⟩; (case a => k_is); (case l => k_is); (case c => k_is); (case k => k_is))))
    (case D24 => ((refine' ⟨_, _, DL.def_mk ?a ?l ?c ?k⟩; (case a => k_is); (case l => k_is); (case c => k_is); (case k => k_is))))
    (case D25 => ((refine' ⟨_, _, _, DL.def_mk ?a ?l ?c ?k, DL.lam_mk rfl ?l2 ?h11 ?hd ?no ?mem⟩; (case a => k_is); (case l => k_is); (case c => k_is); (case k => k_is); (case l2 => k_is); (case h11 => rfl); (case hd => kernel_rfl); (case no => kernel_rfl); (case mem => simp))))
    (case D26 => ((refine' ⟨_, _, _, DL.def_mk ?a ?l ?c ?k, DL.lam_mk rfl ?l2 ?h11 ?hd ?no ?mem⟩; (case a => k_is); (case l => k_is); (case c => k_is); (case k => k_is); (case l2 => k_is); (case h11 => rfl); (case hd => kernel_rfl); (case no => kernel_rfl); (case mem => simp))))
    (case D27 => ((refine' ⟨_, _, DL.def_mk ?a ?l ?c ?k⟩; (case a => k_is); (case l => k_is); (case c => k_is); (case k => k_is))))
    (case D28 => ((refine' ⟨_, _, DL.def_mk ?a ?l ?c ?k⟩; (case a => k_is); (case l => k_is); (case c => k_is); (case k => k_is))))
    (case D29 => ((refine' ⟨_, _, _, DL.def_mk ?a ?l ?c ?k, DL.lam_mk rfl ?l2 ?h11 ?hd ?no ?mem⟩; (case a => k_is); (case l => k_is); (case c => k_is); (case k => k_is); (case l2 => k_is); (case h11 => rfl); (case hd => kernel_rfl); (case no => kernel_rfl); (case mem => simp))))
    (case D30 => ((refine' ⟨_, _, DL.def_mk ?a ?l ?c ?k⟩; (case a => k_is); (case l => k_is); (case c => k_is); (case k => k_is))))
    (case D31 => ((refine' ⟨_, _, DL.def_mk ?a ?l ?c ?k⟩; (case a => k_is); (case l => k_is); (case c => k_is); (case k => k_is))))
    (case hnd => decide)
end
